/- A LIBRARY: WHAT A FUNCTION'S CODE RECKONS, AS A LEAN FUNCTION, AND THAT ITS WORD IS THE MODEL'S: part 4 of 6. No condition. -/
import Derived.Test.YtjfcepbllmdfcaaGreatDoorFxC
set_option linter.unusedVariables false
set_option linter.unusedSimpArgs false
namespace Go.Sy
section
variable{P:Program}{G:Cx}{nt:Nat}{E:Env}{w:World}{a:Act}{β:Nat->Option Nat}{st:Sta}
 {Z0 B0:Nat->Prop} {w0:World} {dl:List Deferred} {tb:TblS}
theorem zEv{h:Nat}:∀{l:JV}{i k:Nat},posN h i l=some k->∃j,k=i+j/\l[j]?=some h
 |[],i,k,e=>by cases e
 |a::r,i,k,e=>by
  simp only[posN]at e;split at e
  .rename_i hb;cases e;exact⟨0,rfl,by rw[zb hb];rfl⟩
  .obtain⟨j,h1,h2⟩:=zEv e;exact⟨j+1,by omega,by simpa using h2⟩
theorem zQl{n:Nat}:∀{l:JV},inN n l=false->n ∉ l
 |[],_,h=>by cases h
 |a::r,e,h=>by
  simp only[inN]at e;split at e
  .cases e
  .rename_i hb;rcases QJ.1 h with rfl|h
   .rw[Nat.beq_refl]at hb;cases hb
   .exact zQl e h
theorem zMx:∀{l:JV},zKX l=true->l.Nodup
 |[],_=>.nil
 |a::r,h=>by
  simp only[zKX,QA,Bool.not_eq_true']at h;exact Qx.2 ⟨zQl h.1,zMx h.2⟩
def zAc(E:Env)(hm sm:JV):Env:=⟨λi=>E.ρ (hm.getD i 0),λi=>∃h,hm[i]?=some h/\E.D h,E.Z,λi=>E.σ (sm.getD i 0)⟩
theorem zPn{hm sm:JV}{n k:Nat}:∀(d:Nat){v v':AV}{cv:Value},CP n k v->VR E w v cv->rnV hm sm d v=some v'->VR (zAc E hm sm) w v' cv/\CP sm.length hm.length v':=by
 intro d
 induction d with
 |zero=>intro v v' cv _ _ h;cases h
 |succ d ih=>
  intro v v' cv z p h;have al:∀{R T:JE}{vs:JC},(∀e∈R,CP n k e)->VRs E w R vs->zC (rnV hm sm d) R=some T->VRs (zAc E hm sm) w T vs/\∀e∈T,CP sm.length hm.length e:=λ{R T vs} hc J aa=>by
   obtain⟨m1,m2⟩:=zA1 aa;have key:∀(i:Nat) y u,T[i]?=some y->vs[i]?=some u->VR (zAc E hm sm) w y u/\CP sm.length hm.length y:=λi y u N hu=>by
    have hi:i<R.length:=by have:=(QC.1 N).1;omega
    have A:=QD hi;exact ih (hc _ (QF A)) (J.2 i _ u A hu) (m2 i _ y A N)
   refine⟨⟨m1.trans J.1,λi y u N hu=>(key i y u N hu).1⟩,λe F=>?_⟩
   obtain⟨i,hi⟩:=List.getElem?_of_mem F;have B:i<vs.length:=by have:=(QC.1 hi).1;have:=J.1;omega
   exact(key i e _ hi (QD B)).2
  have U:∀{h i:Nat},posN h 0 hm=some i->E.D h->(zAc E hm sm).D i/\(zAc E hm sm).ρ i=E.ρ h/\i<hm.length:=λ{h i} e hd=>by
   obtain⟨j,M,I⟩:=zEv e;have M:i=j:=by omega
   subst M;refine⟨⟨h,I,hd⟩,?_,(QC.1 I).1⟩
   show E.ρ (hm.getD i 0)=E.ρ h
   rw[List.getD_eq_getElem?_getD,I];rfl
  have q:∀{v:AV}{cv:Value},PP v->VR E w v cv->VR (zAc E hm sm) w v cv:=λhp p=>VR.pp (E:=E) (E':=zAc E hm sm) (w:=w) (w':=w) (λb hb=>⟨hb,rfl⟩) p hp
  unfold rnV at h;split at h
  .split at h
   .rename_i i e;cases h;cases p with
    |ptr _ _ hd=>
     obtain⟨g1,g2,g3⟩:=U e hd;rw[←g2];exact⟨.ptr _ _ g1,.ptr _ _ g3⟩
   .cases h
  .split at h
   .rename_i i e;cases h;obtain⟨j,M,I⟩:=zEv e;have B:i<hm.length:=by have:=(QC.1 I).1;omega
    cases p with
    |row _ _ _ _ _ cap _ hd Q O W z ab hb=>
     obtain⟨g1,g2,g3⟩:=U e hd;rw[←g2]at hb⊢;exact⟨.row _ _ _ _ _ cap _ g1 Q O W z ab hb,.row _ _ _ _ _ _ B⟩
    |wm _ _ _ _ ad=>exact⟨.wm _ _ _ _ ad,.row _ _ _ _ _ _ B⟩
   .cases h
  .split at h
   .rename_i i e;cases h;cases p with
    |map _ hd=>
     obtain⟨g1,g2,g3⟩:=U e hd;rw[←g2];exact⟨.map _ g1,.map _ g3⟩
   .cases h
  .split at h
   .rename_i i e;cases h;obtain⟨j,M,I⟩:=zEv e;have M:i=j:=by omega
    subst M;have B:i<sm.length:=(QC.1 I).1;cases p with
    |sym _ _ F h1=>
     refine⟨.sym _ _ (F.trans ?_) h1,.sym _ B⟩
     show _=E.σ (sm.getD i 0)
     rw[List.getD_eq_getElem?_getD,I];rfl
   .cases h
  .split at h
   .rename_i x' A;split at h
    .rename_i y' N;cases h;cases z with
     |func _ _ _ S hb=>
      cases p with
      |func _ _ _ vf vc hf hc rf rc=>
       obtain⟨⟨g1,g2⟩,g3⟩:=al (vs:=vf.toList) S ⟨by simpa using hf,λi x v A p=>rf i x v A (by simpa using p)⟩ A
       obtain⟨⟨g4,g5⟩,g6⟩:=al (vs:=vc.toList) hb ⟨by simpa using hc,λi x v A p=>rc i x v A (by simpa using p)⟩ N
       exact⟨.func _ _ _ vf vc (by simpa using g1) (by simpa using g4) (λi x v A p=>g2 i x v A (by simpa using p)) (λi x v A p=>g5 i x v A (by simpa using p)),.func _ _ _ g3 g6⟩
    .cases h
   .cases h
  .split at h
   .rename_i u' hu;cases h;cases z with
    |iface _ _ hc=>
     cases p with
     |iface _ _ cv p=>
      obtain⟨g1,g2⟩:=ih hc p hu;exact⟨.iface _ _ cv g1,.iface _ _ g2⟩
   .cases h
  .split at h
   .rename_i X K;cases h;cases z with
    |agg _ hc=>
     obtain⟨vs,rfl,k1,k2⟩:=p.qY;obtain⟨g1,g2⟩:=al hc k1 K;exact⟨VR.qP g1 k2,.agg _ g2⟩
   .cases h
  .split at h
   .rename_i X K;cases h;cases z with
    |qd _ hc=>
     obtain⟨vs,rfl,k1⟩:=p.va;obtain⟨g1,g2⟩:=al hc k1 K;exact⟨VR.qG g1,.qd _ g2⟩
   .cases h
  .cases h;cases z with
   |qc e off F=>exact⟨q (.qc _ _ F) p,.qc _ _ F⟩
   |qf sz es F=>exact⟨q (.qf _ _ F) p,.qf _ _ F⟩
   |bool b=>exact⟨q (.bool _) p,.bool _⟩
   |int k m=>exact⟨q (.int _ _) p,.int _ _⟩
   |str s=>exact⟨q (.str _) p,.str _⟩
   |qo=>exact⟨q .qo p,.qo⟩
   |qa=>exact⟨q .qa p,.qa⟩
   |qn=>exact⟨q .qn p,.qn⟩
   |ql=>exact⟨q .ql p,.ql⟩
   |qe=>exact⟨q .qe p,.qe⟩
   |ptr h' o' Y=>exact(‹∀(h o:Nat),AV.ptr h' o'=AV.ptr h o->False› _ _ rfl).elim
   |row a1 a2 a3 a4 a5 a6 Y=>exact(‹∀(h o l s c:Nat)(e:Bool),AV.row a1 a2 a3 a4 a5 a6=AV.row h o l s c e->False› _ _ _ _ _ _ rfl).elim
   |map a1 Y=>exact(‹∀(h:Nat),AV.map a1=AV.map h->False› _ rfl).elim
   |sym a1 Y=>exact(‹∀(h:Nat),AV.sym a1=AV.sym h->False› _ rfl).elim
   |func a1 a2 a3 S hb=>exact(‹∀(f:Fn)(a b:JE),AV.func a1 a2 a3=AV.func f a b->False› _ _ _ rfl).elim
   |iface a1 a2 S=>exact(‹∀(t:Nat)(v:AV),AV.iface a1 a2=AV.iface t v->False› _ _ rfl).elim
   |agg a1 S=>exact(‹∀(cs:JE),AV.agg a1=AV.agg cs->False› _ rfl).elim
   |qd a1 S=>exact(‹∀(cs:JE),AV.qd a1=AV.qd cs->False› _ rfl).elim
theorem zK2{H:Heap}{hm sm:JV}:∀{l:JV}{i:Nat}{H':Heap},rnH H hm sm i l=some H'->H'.length=l.length/\H'.keys=List.range' i l.length/\∀p∈H',∃(j:Nat) (h:Nat) (str:Bool) (cs cs':JE),l[j]?=some h/\p=(i+j,HO.cells str cs')/\H.get h=some (.cells str cs)/\zC (rnV hm sm 8) cs=some cs'
 |[],i,H',e=>by cases e;exact⟨rfl,rfl,λp b=>by cases b⟩
 |h::r,i,H',e=>by
  simp only[rnH]at e;split at e
  .rename_i str cs k;split at e
   .rename_i cs' d;split at e
    .rename_i H2 v;cases e;obtain⟨h1,h2,h3⟩:=zK2 v;refine⟨by simp[h1],?_,λp b=>?_⟩
     .have h2:List.map (·.1) H2=List.range' (i+1) r.length:=h2;show List.map (·.1) ((i,HO.cells str cs')::H2)=_
      rw[QZ,h2,QL,List.range'_succ]
     .rcases QJ.1 b with rfl|b
      .exact⟨0,h,str,cs,cs',rfl,rfl,k,d⟩
      .obtain⟨j,n,f,q,c2,q1,x,o,u⟩:=h3 p b;exact⟨j+1,n,f,q,c2,by simpa using q1,by rw[x];congr 1;omega,o,u⟩
    .cases e
   .cases e
  .cases e
theorem zJA{V:Vecs}:∀{l:JV}{i:Nat}{b:Vecs},zLC V i l=some b->b.length=l.length/\∀j vi,b.get j=some vi->∃k s,j=i+k/\l[k]?=some s/\V.get s=some vi/\vi.qA=true
 |[],i,b,e=>by cases e;exact⟨rfl,λj vi h=>by cases h⟩
 |s::r,i,b,e=>by
  have key:∀{V2:Vecs}{vi:VI},V.get s=some vi->vi.qA=true->zLC V (i+1) r=some V2->b=(i,vi)::V2->b.length=(s::r).length/\∀j vi,b.get j=some vi->∃k n,j=i+k/\(s::r)[k]?=some n/\V.get n=some vi/\vi.qA=true:=by
   intro V2 vi d q f e;subst e;obtain⟨h1,h2⟩:=zJA f;refine⟨by simp[h1],λj o h=>?_⟩
   rw[Vecs.qi]at h;split at h
   .rename_i e;cases h;exact⟨0,s,e.symm,rfl,d,q⟩
   .obtain⟨k,n,q1,x,p,u⟩:=h2 j o h;exact⟨k+1,n,by omega,by simpa using x,p,u⟩
  simp only[zLC]at e;split at e
  .rename_i y v d;split at e
   .rename_i V2 f;cases e;exact key d rfl f rfl
   .cases e
  .rename_i v d;split at e
   .rename_i V2 f;cases e;exact key d rfl f rfl
   .cases e
  .cases e
theorem zPo{fr:Fr}:∀{ts:JV}{vs:JE},zSo fr ts=some vs->vs.length=ts.length/\∀(i t:Nat) v,ts[i]?=some t->vs[i]?=some v->fr.get t=some v
 |[],vs,e=>by cases e;exact⟨rfl,λi t v h=>by simp at h⟩
 |t::ts,vs,e=>by
  simp only[zSo]at e;split at e
  .rename_i v l;split at e
   .rename_i r k;cases e;obtain⟨h1,h2⟩:=zPo k;refine⟨by simp[h1],λi j f d b=>?_⟩
    cases i with
    |zero=>simp at d b;subst d;subst b;exact l
    |succ i=>exact h2 i j f (by simpa using d) (by simpa using b)
   .cases e
  .cases e
theorem zND:∀{ts:JV}{vs:JE}{t:Nat}{v:AV},(zVW ts vs).get t=some v->∃i:Nat,ts[i]?=some t/\vs[i]?=some v
 |[],vs,t,v,h=>by cases vs<;>cases h
 |t0::ts,[],t,v,h=>by cases h
 |t0::ts,v0::vs,t,v,h=>by
  simp only[zVW,Fr.get]at h;split at h
  .rename_i e;cases h;exact⟨0,by rw[zb e];rfl,rfl⟩
  .obtain⟨i,h1,h2⟩:=zND h;exact⟨i+1,by simpa using h1,by simpa using h2⟩
structure CanV(hm sm:JV)(st:Sta)(H:Heap)(V:Vecs):Prop where
 jo:hm.Nodup
 jn:sm.Nodup
 rh:rnH st.H hm sm 0 hm=some H
 rv:zLC st.V 0 sm=some V
theorem zLW(hG:GPP G)(s:SR G nt E w a β st){hm sm:JV}{vs0:JE}{cvs:JC}(ag:∀v∈vs0,CP st.mv st.m v)(M:VRs E w vs0 cvs){k:JE->Heap->Vecs->Prop}(h:zC7 hm sm vs0 st k):
  ∃vs H V,k vs H V/\CanV hm sm st H V/\zC (rnV hm sm 8) vs0=some vs/\VRs (zAc E hm sm) w vs cvs/\(∀v∈vs,CP V.length H.length v)/\(∀X a' fr',FrR (zAc E hm sm) w fr' a' X->zDj V.length H.length fr'->SR G X (zAc E hm sm) w a' (λi=>β (sm.getD i 0)) ⟨fr',H,V,H.length,V.length⟩) ∧
   Kp E.Z (BS E β st.H st.V) w (zAc E hm sm).Z (BS (zAc E hm sm) (λi=>β (sm.getD i 0)) H V) w:=by
 unfold zC7 at h;split at h
 rotate_left
 .exact h.elim
 rename_i aa;rw[QA]at aa;have T:=zMx aa.1;have U:=zMx aa.2;split at h
 rotate_left
 .exact h.elim
 rename_i vs ab;split at h
 rotate_left
 .exact h.elim
 rename_i H hH;split at h
 rotate_left
 .exact h.elim
 rename_i V hV;obtain⟨g1,g2,g3⟩:=zK2 hH;obtain⟨v1,v2⟩:=zJA hV;obtain⟨m1,m2⟩:=zA1 ab;have hσ:∀{j z:Nat},sm[j]?=some z->(zAc E hm sm).σ j=E.σ z:=λ{j z} e=>by
  show E.σ (sm.getD j 0)=E.σ z
  rw[List.getD_eq_getElem?_getD,e];rfl
 have hρ:∀{j F:Nat},hm[j]?=some F->(zAc E hm sm).ρ j=E.ρ F:=λ{j F} e=>by
  show E.ρ (hm.getD j 0)=E.ρ F
  rw[List.getD_eq_getElem?_getD,e];rfl
 have inj:∀{l:JV}{i j x:Nat},l.Nodup->l[i]?=some x->l[j]?=some x->i=j:=λ{l i j x} hn hi O=>by
  obtain⟨h1,h2⟩:=QC.1 hi;obtain⟨h3,h4⟩:=QC.1 O;exact(List.getElem_inj hn).1 (h2.trans h4.symm)
 have W:∀(i:Nat) x u,vs[i]?=some x->cvs[i]?=some u->VR (zAc E hm sm) w x u/\CP V.length H.length x:=λi x u D hu=>by
  have hi:i<vs0.length:=by have:=(QC.1 D).1;omega
  have d:=QD hi;have:=zPn 8 (ag _ (QF d)) (M.2 i _ u d hu) (m2 i _ x d D);rw[v1,g1];exact this
 refine⟨vs,H,V,h,⟨T,U,hH,hV⟩,ab,⟨m1.trans M.1,λi x u D hu=>(W i x u D hu).1⟩,λx D=>?_,λX a' fr' ak ai=>⟨⟨?_,λp y=>?_,λp y q hq e=>?_,λp y=>?_,λp y=>?_,s.hr.wi⟩,ak,?_,λi hi=>?_,ai,λp y=>?_,λj I O=>?_,λj j2 i off O=>?_,λj I b O ho hb=>?_,λj j' I ae b h1 h2 h3 h4 h5 h6=>?_⟩,?_⟩
 .obtain⟨i,hi⟩:=List.getElem?_of_mem D;have J:i<cvs.length:=by have:=(QC.1 hi).1;have:=M.1;omega
  exact(W i x _ hi (QD J)).2
 .show H.keys.Nodup
  rw[g2];exact List.nodup_range'
 .obtain⟨j,F,str,Q,A,o,rfl,f,K⟩:=g3 p y;have:=s.hr.qy _ (Heap.qj f);exact⟨F,by simpa using o,this⟩
 .obtain⟨j,F,str,Q,A,o,rfl,f,K⟩:=g3 p y;obtain⟨j2,h2,ao,ar,aq,f1,rfl,f3,f4⟩:=g3 q hq;simp only[Qa]at e⊢;rw[hρ o,hρ f1]at e;have:=s.hr.inj _ (Heap.qj f) _ (Heap.qj f3) e;simp only at this;subst this;exact inj T o f1
 .obtain⟨j,F,str,Q,A,o,rfl,f,K⟩:=g3 p y;simp only[Qa];rw[hρ o];have ac:=Heap.qj f;have aj:=s.hr.obj _ ac;obtain⟨_,_,ec,Y⟩:=s.cH.get f;cases ec;obtain⟨cc,ee,ff,q1,B,N,R⟩:=aj;obtain⟨r1,r2⟩:=zA1 K;refine⟨cc,ee,ff,q1,by omega,N,λi x D=>?_⟩
  have hi:i<Q.length:=by have:=(QC.1 D).1;omega
  have d:=QD hi;obtain⟨v,k1,k2,k3⟩:=R i _ d;exact⟨v,k1,k2,(zPn 8 (Y _ (QF d)) k3 (r2 i _ x d D)).1⟩
 .obtain⟨j,F,str,Q,A,o,rfl,f,K⟩:=g3 p y;simp only[Qa];rw[hρ o];exact s.hr.nz _ (Heap.qj f)
 .exact λg u hg=>⟨VR.pp (E:=E) (E':=zAc E hm sm) (w:=w) (w':=w) (λb hb=>⟨hb,rfl⟩) (s.hg g u hg).1 (hG g u hg),(s.hg g u hg).2⟩
 .obtain⟨F,e,_⟩:=hi;show i<H.length
  rw[g1];exact(QC.1 e).1
 .obtain⟨j,F,str,Q,A,o,rfl,f,K⟩:=g3 p y;refine⟨str,A,rfl,λx D=>?_⟩
  show CP V.length H.length x
  rw[v1,g1];obtain⟨_,_,ec,Y⟩:=s.cH.get f;cases ec;obtain⟨r1,r2⟩:=zA1 K;obtain⟨i,hi⟩:=List.getElem?_of_mem D;have J:i<Q.length:=by have:=(QC.1 hi).1;omega
  have d:=QD J;obtain⟨_,_,_,_,_,_,R⟩:=s.hr.obj _ (Heap.qj f);obtain⟨v,k1,k2,k3⟩:=R i _ d;exact(zPn 8 (Y _ (QF d)) k3 (r2 i _ x d hi)).2
 .obtain⟨S,z,rfl,B,N,R⟩:=v2 j I O;simp only[Qa]at O⊢;have J:=(QC.1 B).1;refine⟨by show S<V.length;rw[v1];exact J,?_⟩
  have n:sm.getD S 0=z:=by rw[List.getD_eq_getElem?_getD,B];rfl
  have ad:=(s.qW z I N).2;cases I with
  |vec sz es=>
   obtain⟨y,⟨o,e2,f⟩|⟨b,str,Q,cp,ex,o,e2,f,K,e5,e6⟩⟩:=ad
   .exact⟨y,.inl ⟨by simp only[n];exact o,(hσ B).trans e2,f⟩⟩
   .exact⟨y,.inr ⟨b,str,Q,cp,ex,by simp only[n];exact o,OR.pp (E:=E) (E':=zAc E hm sm) (w:=w) (w':=w) rfl (λb hb=>⟨hb,rfl⟩) K e2,by rw[hσ B];exact f,K,e5,e6⟩⟩
  |mp es=>
   obtain⟨y,b,o,e2,f⟩:=ad;exact⟨y,b,by simp only[n];exact o,OR.pm (E:=E) (E':=zAc E hm sm) (w:=w) (w':=w) rfl (λb hb=>⟨hb,rfl⟩) y e2,(hσ B).trans f⟩
  |qX=>cases R
 .obtain⟨S,z,rfl,B,N,R⟩:=v2 j _ O;cases R
 .obtain⟨S,z,rfl,B,N,R⟩:=v2 j I O;simp only[Qa]at hb;have n:sm.getD S 0=z:=by rw[List.getD_eq_getElem?_getD,B];rfl
  rw[n]at hb;obtain⟨z1,z2⟩:=s.bz z I b N ho hb;refine⟨z1,λp y e=>?_⟩
  obtain⟨j,F,str,Q,A,o,rfl,f,K⟩:=g3 p y;simp only[Qa]at e;rw[hρ o]at e;exact z2 _ (Heap.qj f) e
 .obtain⟨S,z,rfl,B,N,R⟩:=v2 j I h1;obtain⟨ah,s2,rfl,r2,r3,r4⟩:=v2 j' ae h2;simp only[Qa]at h5 h6⊢;have n:sm.getD S 0=z:=by rw[List.getD_eq_getElem?_getD,B];rfl
  have af:sm.getD ah 0=s2:=by rw[List.getD_eq_getElem?_getD,r2];rfl
  rw[n]at h5;rw[af]at h6;have:=s.qU z s2 I ae b N r3 h3 h4 h5 h6;subst this;exact inj U B r2
 .refine Kp.less λx D=>?_
  rcases D with⟨p,y,e⟩|⟨j,I,O,ho,hb⟩
  .obtain⟨j,F,str,Q,A,o,rfl,f,K⟩:=g3 p y;simp only[Qa]at e;rw[hρ o]at e;exact .inl ⟨_,Heap.qj f,e⟩
  .obtain⟨S,z,rfl,B,N,R⟩:=v2 j I O;simp only[Qa]at hb;have n:sm.getD S 0=z:=by rw[List.getD_eq_getElem?_getD,B];rfl
   rw[n]at hb;exact .inr ⟨z,I,N,ho,hb⟩
theorem zej(y:GPP G)(s:SR G nt E w a β st){c:Cut}{k:JE->Heap->Vecs->Prop}(h:canon c st k):∃vs H V,k vs H V/\∃f l,SR G nt f w a l (mkW c vs H V)/\Kp E.Z (BS E β st.H st.V) w f.Z (BS f l H V) w:=by
 unfold canon at h;split at h
 .exact h.elim
 rename_i vs0 e;unfold zKY at h;generalize zEX st.H 30 0 (vs0.foldl (λa v=>hsA 8 v a) (List.range c.pins))=z at h
 generalize zDy st.H z (vs0.foldl (λa v=>zHt 8 v a) [])=sm at h
 obtain⟨A,B⟩:=zPo e;have j:∀(i:Nat) x,vs0[i]?=some x->∃t,c.qI[i]?=some t/\st.fr.get t=some x:=λi x d=>by
  have hi:i<c.qI.length:=by have:=(QC.1 d).1;omega
  have b:=QD hi;exact⟨_,b,B i _ x b d⟩
 obtain⟨vs,H,V,n,F,I,o,D,p,q⟩:=zLW y s (vs0:=vs0) (cvs:=c.qI.map λt=>a.tmps.getD t undef) (λx d=>by
  obtain⟨i,hi⟩:=List.getElem?_of_mem d;obtain⟨t,_,h2⟩:=j i x hi;exact s.wa t x h2) ⟨by simp[A],λi x u d hu=>by
  obtain⟨t,h1,h2⟩:=j i x d;rw[Qb,h1]at hu;cases hu;exact s.hf.get t x h2⟩ h
 refine⟨vs,H,V,n,_,_,p nt a (zVW c.qI vs) ⟨s.hf.size,λt v b=>?_⟩ (λt v b=>?_),q⟩
 .obtain⟨i,h1,h2⟩:=zND b;exact o.2 i v _ h2 (by rw[Qb,h1];rfl)
 .obtain⟨i,h1,h2⟩:=zND b;exact D v (QF h2)
end
def HFn(P:Program)(G:Cx)(f:Nat)(args:JE)(H:Heap)(V:Vecs)(v:AV)(H2:Heap)(V2:Vecs):Prop:=
 ∀(E:Env)(w:World)(β:Nat->Option Nat)(b:JB),SR G 0 E w { tmps:=#[],defers:=[] } β ⟨[],H,V,H.length,V.length⟩->VRs E w args b.toList->(∀x∈args,CP V.length H.length x) →
  Calls P f b w λe h=>∃i d j,e=.returned i/\VR d h v i/\(∀p∈H2,p.1<H.length->d.ρ p.1=E.ρ p.1)/\SR G 0 d h { tmps:=#[],defers:=[] } j ⟨[],H2,V2,H2.length,V2.length⟩/\Kp E.Z (BS E β H V) w d.Z (BS d j H2 V2) h
def OP1(n k:Nat)(v:AV):Prop:=PP v\/(∃j,v=.sym j/\j<n)\/∃i o,v=.ptr i o/\i<k
def OPV(n k:Nat)(v:AV):Prop:=OP1 n k v\/∃l,v=.qd l/\∀u∈l,OP1 n k u
theorem zS4{v:AV}{hm:JV}{m mv:Nat}(h:PP v):wK hm m mv v=v:=by cases h<;>rfl
theorem zY6{v:AV}{hm:JV}{m mv:Nat}(h:PP v):ue hm m mv v=v:=by
 cases h with
 |qd l b=>
  show AV.qd (l.map (wK hm m mv))=_
  have:l.map (wK hm m mv)=l.map id:=List.map_congr_left λu hu=>zS4 (b u hu)
  rw[this,List.map_id]
 |_=>rfl
theorem zek{v:AV}{mv:Nat}(h:PP v):rn1 mv v=v:=by cases h<;>rfl
theorem zVg{v:AV}{mv:Nat}(h:PP v):rnB mv v=v:=by
 cases h with
 |qd l b=>
  show AV.qd (l.map (rn1 mv))=_
  have:l.map (rn1 mv)=l.map id:=List.map_congr_left λu hu=>zek (b u hu)
  rw[this,List.map_id]
 |_=>rfl
structure HOut(v:AV)(H H2:Heap)(V2:Vecs):Prop where
 pp:OPV V2.length H2.length v
 keys:H2.keys=List.range' 0 H2.length
 jl:H.length<=H2.length
 cells:∀p∈H2,∃str cs,p.2=.cells str cs/\∀c∈cs,PP c\/∃j,c=.sym j/\j<V2.length
 qA:∀j vi,V2.get j=some vi->vi.qA=true
def ze2(P:Program)(G:Cx)(f:Nat)(args:JE)(V:Vecs)(v:AV)(V2:Vecs):Prop:=
 (∀j o,V.get j=some o->∃l n h,o=.vec l n/\V2.get j=some (.vec l h)/\h.length=n.length) ∧
 ∀(E:Env)(w:World)(β:Nat->Option Nat)(b:JB),SR G 0 E w { tmps:=#[],defers:=[] } β ⟨[],[],V,0,V.length⟩->VRs E w args b.toList->(∀x∈args,CP V.length 0 x) →
  Calls P f b w λe i=>∃k d,e=.returned k/\VR d i v k/\d.σ=E.σ/\SR G 0 d i { tmps:=#[],defers:=[] } β ⟨[],[],V2,0,V.length⟩/\Kp E.Z (BS E β [] V) w d.Z (BS d β [] V2) i
def HOK(P:Program)(G:Cx)(e:HEnt):Prop:=Enters P e.f/\∀args H V v H2 V2,e.pre args H V->e.val args H V=some (v,H2,V2)->HOut v H H2 V2/\match inpl e.grow with
 |true=>H=[]/\H2=[]/\PP v/\ze2 P G e.f args V v V2
 |false=>HFn P G e.f args H V v H2 V2
section
variable{P:Program}{G:Cx}{nt:Nat}{E:Env}{w:World}{a:Act}{β:Nat->Option Nat}{st:Sta}
 {Z0 B0:Nat->Prop} {w0:World} {dl:List Deferred} {tb:TblS}
theorem zXG{H:Heap}{fr:Fr}(X:HR E H w)(K:FrR E w fr a nt)(J:GR G E w){o:Oper}{l:XO}(hc:zBx P o.op=some l){f:Nat}{args:JE}(U:Enters P f)
  (O:(∃xs,l=.call f xs/\evs G fr xs=some args)\/∃A xs first d vs,l=.qO A xs/\A.ev G fr=some (.func (.func f) first d)/\evs G fr xs=some vs/\args=first++vs++d):
  ∃cargs:JB,VRs E w args cargs.toList/\(execOp a.eval o).run P w=.ok (.enter f cargs) w:=by
 have I:∀call:Sy.Call,xoS G call fr H 0 l=call f args H 0:=by
  intro call;rcases O with⟨xs,rfl,h⟩|⟨A,xs,first,d,vs,rfl,h1,h2,rfl⟩
  .simp only[xoS,h]
  .simp only[xoS,h1,h2,zHq]
 have no:(∀b:Bool,zAS P E H w 0 (execOp a.eval o) (.bool b) H 0)->False:=by
  intro D;obtain⟨cv,E1,w1,_,_,v1,M⟩:=D true;obtain⟨ad,E2,w2,_,_,v2,z⟩:=D false;cases v1;cases v2;rcases M with M|⟨M,R⟩
  .rcases z with z|⟨z,k⟩
   .rw[M]at z;cases z
   .rw[M]at z;cases z
  .cases R
 have W:∀b,xoS G (λ_ _ H nx=>some (.bool b,H,nx)) fr H 0 l=some (.bool b,H,0):=λb=>I _
 have n:zFP E 0 0:=λh h1 h2=>by omega
 by_cases F:∃c,o.op=.call c
 rotate_left
 .exact(no λb=>zWz X K J (λc h=>F ⟨c,h⟩) hc n (W b)).elim
 obtain⟨⟨callee,y,ts⟩,N⟩:=F;rw[N]at hc;have p:∀{x:Operand}{ax:XV}{j:List XV}{first d vs:JE},callee=.value x->zL x=some ax->zES y.toList=some j->ax.ev G fr=some (.func (.func f) first d)->evs G fr j=some vs->args=first++vs++d →
   ∃cargs:JB,VRs E w args cargs.toList/\(execOp a.eval o).run P w=.ok (.enter f cargs) w:=by
  intro x ax j first d vs R k e3 e4 e5 e6;subst R;subst e6;have B:=zM K J k e4;generalize Q:a.eval x=cx at B;cases B with
  |func _ _ _ vf vc Y ab rf rc=>
   have q:=zDT K J e3 e5;have h1:VRs E w first vf.toList:=⟨by simpa using Y,λi x v I B=>rf i x v I (by simpa using B)⟩
   have h2:VRs E w d vc.toList:=⟨by simpa using ab,λi x v I B=>rc i x v I (by simpa using B)⟩
   refine⟨vf++y.map a.eval++vc,by simpa using(h1.append q).append h2,?_⟩
   simp only[execOp,N,resolve,Sem.run_bind,Q,Deferred.ofValue,Sem.run_pure,Result.andThen_ok,invoke];exact zKT U
 have gen:∀{x:Operand},callee=.value x->(∃ax,zL x=some ax/\∃j,zES y.toList=some j/\l=.qO ax j)->∃cargs:JB,VRs E w args cargs.toList/\(execOp a.eval o).run P w=.ok (.enter f cargs) w:=by
  rintro x ec ⟨ax,u,j,has,e⟩
  rcases O with⟨xs,k,h⟩|⟨A,xs,first,d,vs,k,h1,h2,h3⟩
  .rw[e]at k;cases k
  .rw[e]at k;cases k;exact p ec u has h1 h2 h3
 cases callee with
 |builtin b=>exact(no λT=>zO7 X K J N hc n (W T)).elim
 |value x=>
  cases x with
  |func f'=>
   simp only[zBx]at hc;split at hc
   .rename_i fn S;split at hc
    .obtain⟨j,has,hc⟩:=za hc;cases hc;rcases O with⟨xs,k,h⟩|⟨A,xs,first,d,vs,k,h1,h2,h3⟩
     .cases k;exact p (x:=.func f) (ax:=.c (.func (.func f) [] [])) rfl rfl has rfl h (by simp)
     .cases k
    .rename_i aa;obtain⟨j,has,hc⟩:=za hc;exact(no λT=>zUV X K J N S aa has hc (W T)).elim
   .cases hc
  |tmp t=>
   obtain⟨j,has,hc⟩:=za hc;cases hc;exact gen rfl ⟨_,rfl,j,has,rfl⟩
  |const ae=>
   obtain⟨ax,u,hc⟩:=za hc;obtain⟨j,has,hc⟩:=za hc;cases hc;exact gen rfl ⟨ax,u,j,has,rfl⟩
  |global g=>
   obtain⟨j,has,hc⟩:=za hc;cases hc;exact gen rfl ⟨_,rfl,j,has,rfl⟩
 |invoke r m=>
  obtain⟨ar,ac,hc⟩:=za hc;obtain⟨j,has,hc⟩:=za hc;cases hc;rcases O with⟨xs,k,h⟩|⟨A,xs,first,d,vs,k,h1,h2,h3⟩
  .cases k
  .cases k
theorem zPp{h:Nat}:∀{l:JV}{i:Nat},posN h i l=none->h ∉ l
 |[],i,e=>by simp
 |a::r,i,e=>by
  simp only[posN]at e;split at e
  .cases e
  .rename_i hb;have:=zPp e;simp only[QJ,not_or];exact⟨zAU hb,this⟩
theorem zC2{sm:JV}{mv:Nat}{V:Vecs}:∀{V2:Vecs}{j:Nat}{vi:VI},(zLS sm mv V2 V).get j=some vi->(∃b,j=mv+b/\V2.get b=some vi)\/(j ∉ sm/\V.get j=some vi)
 |[],j,vi,h=>by
  refine .inr ?_
  simp only[zLS]at h
  induction V with
  |nil=>cases h
  |cons p r f=>
   obtain⟨k,o⟩:=p;rw[List.filter_cons]at h;split at h
   .rename_i d;rw[Vecs.qi]at h⊢;split at h
    .rename_i e;cases h;subst e;simp only[Bool.not_eq_true']at d;exact⟨zQl d,by simp⟩
    .rename_i e;rw[if_neg e];exact f h
   .rename_i d;obtain⟨h1,h2⟩:=f h;refine⟨h1,?_⟩
    rw[Vecs.qi,if_neg ?_]
    .exact h2
    .rintro rfl
     have:inN k sm=true:=by simpa using d
     have mem:∀{l:JV},inN k l=true->k∈l:=by
      intro l
      induction l with
      |nil=>intro h;cases h
      |cons a r f=>
       intro h;simp only[inN]at h;split at h
       .rename_i e;rw[zb e];exact .head _
       .exact .tail _ (f h)
     exact h1 (mem this)
 |(k,o)::r,j,vi,h=>by
  simp only[zLS]at h;rw[Vecs.qi]at h;split at h
  .rename_i e;cases h;exact .inl ⟨k,e.symm,by rw[Vecs.qi];simp⟩
  .rename_i e;rcases zC2 h with⟨b,h1,h2⟩|h
   .refine .inl ⟨b,h1,?_⟩
    rw[Vecs.qi,if_neg (by omega)]
    exact h2
   .exact .inr h
theorem zSt{hm:JV}{mv:Nat}{H2 H:Heap}:(zFy hm mv H2 H).keys=H.keys:=by
 unfold zFy Heap.keys;rw[List.map_map];apply List.map_congr_left;intro p b;simp only[Function.comp];split
 .split<;>rfl
 .rfl
theorem zFW{hm:JV}{mv:Nat}{H2 H:Heap}(u:hm.length<=H2.length)(y:H2.keys=List.range' 0 H2.length)(k:∀p∈H2,∃str cs,p.2=HO.cells str cs){p:Nat×HO}(v:p∈zFy hm mv H2 H):
  (p∈H/\p.1 ∉ hm)\/∃(i:Nat) (str:Bool) (cs:JE) (o:HO),hm[i]?=some p.1/\(i,HO.cells str cs)∈H2/\p.2=.cells str (cs.map (rnB mv))/\(p.1,o)∈H:=by
 unfold zFy at v;obtain⟨q,n,e⟩:=QR.1 v;split at e
 .rename_i i hi;obtain⟨j,h1,h2⟩:=zEv hi;have A:i=j:=by omega
  subst A;have f:i<H2.length:=by have:=(QC.1 h2).1;omega
  have l:=QD f;have d:=Qg f;obtain⟨str,cs,x⟩:=k _ d;have h:H2[i].1=i:=by
   have:H2.keys[i]?=some H2[i].1:=by simp[Heap.keys,l]
   rw[y,List.getElem?_range' (by omega)]at this
   simpa using this.symm
  have b:H2[i]=(i,HO.cells str cs):=Prod.ext h x;rw[l,b]at e;simp only at e;subst e;exact .inr ⟨i,str,cs,q.2,h2,b▸d,rfl,n⟩
 .rename_i z;subst e;exact .inl ⟨n,zPp z⟩
theorem zTP{V:Vecs}:∀{l:JV}{i:Nat}{b:Vecs},zLC V i l=some b->∀(k s:Nat),l[k]?=some s->∃vi,b.get (i+k)=some vi/\V.get s=some vi
 |[],i,b,e,k,s,h=>by simp at h
 |n::r,i,b,e,k,s,h=>by
  have key:∀{V2:Vecs}{vi:VI},V.get n=some vi->zLC V (i+1) r=some V2->b=(i,vi)::V2->∃vi,b.get (i+k)=some vi/\V.get s=some vi:=by
   intro V2 vi d f e;subst e;cases k with
   |zero=>
    simp at h;subst h;exact⟨vi,by rw[Vecs.qi];simp,d⟩
   |succ k=>
    obtain⟨j,h1,h2⟩:=zTP f k s (by simpa using h)
    refine⟨j,?_,h2⟩
    rw[Vecs.qi,if_neg (by omega)]
    rw[←h1];congr 1;omega
  simp only[zLC]at e;split at e
  .rename_i p o d;split at e
   .rename_i V2 f;cases e;exact key d f rfl
   .cases e
  .rename_i o d;split at e
   .rename_i V2 f;cases e;exact key d f rfl
   .cases e
  .cases e
theorem zKq{a b:Nat}(h:Nat.blt a b=false):b<=a:=by
 rcases Nat.lt_or_ge a b with d|d
 .have:Nat.blt a b=true:=by rw[Qi];exact d
  rw[this]at h;cases h
 .exact d
theorem zAB{n m mv:Nat}:∀{H2:Heap}{p:Nat×HO},p∈zFx n m mv H2->∃(i:Nat) (str:Bool) (cs:JE),n<=i/\p.1=m+(i-n)/\(i,HO.cells str cs)∈H2/\p.2=.cells str (cs.map (rnB mv))
 |[],p,h=>by cases h
 |(j,o)::r,p,h=>by
  cases o with
  |cells str cs=>
   simp only[zFx]at h;split at h
   .obtain⟨i,s2,c2,h1,h2,h3,h4⟩:=zAB h;exact⟨i,s2,c2,h1,h2,.tail _ h3,h4⟩
   .rename_i hb;rcases QJ.1 h with rfl|h
    .exact⟨j,str,cs,zKq hb,rfl,.head _,rfl⟩
    .obtain⟨i,s2,c2,h1,h2,h3,h4⟩:=zAB h;exact⟨i,s2,c2,h1,h2,.tail _ h3,h4⟩
  |_=>
   simp only[zFx]at h;obtain⟨i,s2,c2,h1,h2,h3,h4⟩:=zAB h;exact⟨i,s2,c2,h1,h2,.tail _ h3,h4⟩
theorem zJq{n m mv:Nat}:∀{H2:Heap},H2.keys.Nodup->(zFx n m mv H2).keys.Nodup
 |[],_=>.nil
 |(j,o)::r,h=>by
  have b:(Heap.keys r).Nodup:=(Qx.1 h).2;have k:j ∉ Heap.keys r:=(Qx.1 h).1;cases o with
  |cells str l=>
   simp only[zFx];split
   .exact zJq b
   .rename_i hb;have hb:n<=j:=zKq hb;refine Qx.2 ⟨λf=>?_,zJq b⟩
    obtain⟨p,d,e⟩:=QR.1 f;obtain⟨i,s2,c2,h1,h2,h3,h4⟩:=zAB d;have e:p.1=m+(j-n):=e;have:i=j:=by omega
    subst this;exact k (QR.2 ⟨_,h3,rfl⟩)
  |_=>simp only[zFx];exact zJq b
theorem SR.back(hG:GPP G)(s:SR G nt E w a β st){hm sm:JV}{H H2:Heap}{V V2:Vecs}(cv:CanV hm sm st H V){v:AV}{ag:Value}(o:HOut v H H2 V2){E':Env}{β':Nat->Option Nat}{w':World}(hv:VR E' w' v ag)(hρ:∀p∈H2,p.1<H.length->E'.ρ p.1=(zAc E hm sm).ρ p.1)
  (s':SR G 0 E' w' { tmps:=#[],defers:=[] } β' ⟨[],H2,V2,H2.length,V2.length⟩) (O:Kp (zAc E hm sm).Z (BS (zAc E hm sm) (λi=>β (sm.getD i 0)) H V) w E'.Z (BS E' β' H2 V2) w') {d:Option Nat} (hd:∀n,d=some n->n<nt):
  ∃E2 β2,SR G nt E2 w' (a.put d ag) β2 ⟨qv st.fr d (ue hm st.m st.mv v),zFy hm st.mv H2 st.H++zFx hm.length st.m st.mv H2,zLS sm st.mv V2 st.V,st.m+(H2.length-hm.length),st.mv+V2.length⟩/\Kp E.Z (BS E β st.H st.V) w E2.Z (BS E2 β2 (zFy hm st.mv H2 st.H++zFx hm.length st.m st.mv H2) (zLS sm st.mv V2 st.V)) w':=by
 obtain⟨g1,g2,g3⟩:=zK2 cv.rh;obtain⟨v1,v2⟩:=zJA cv.rv;have au:∀{j h':Nat},hm[j]?=some h'->(zAc E hm sm).ρ j=E.ρ h':=λ{j h'} e=>by
  show E.ρ (hm.getD j 0)=E.ρ h'
  rw[List.getD_eq_getElem?_getD,e];rfl
 have B:H2.keys=List.range' 0 H2.length:=o.keys;have J:hm.length<=H2.length:=g1▸o.jl
 have hρ:∀p∈H2,p.1<hm.length->E'.ρ p.1=(zAc E hm sm).ρ p.1:=λp f hl=>hρ p f (g1.symm▸hl)
 have a8:∀p∈st.H,p.1<st.m:=λp f=>s.qy _ (s.hr.qy p f)
 have ac:∀p∈H2,∃str F,p.2=HO.cells str F:=λp f=>let ⟨str,F,e,_⟩:=o.cells p f;⟨str,F,e⟩
 have hB:∀{x},BS (zAc E hm sm) (λi=>β (sm.getD i 0)) H V x->(∃q∈st.H,q.1∈hm/\E.ρ q.1=x)\/∃s0 z,s0∈sm/\st.V.get s0=some z/\z.qA=true/\β s0=some x:=by
  rintro x (⟨p,f,e⟩|⟨j,z,T,W,hb⟩)
  .obtain⟨j,h',str,F,af,e1,rfl,e3,e4⟩:=g3 p f;simp only[Qa]at e;rw[au e1]at e;exact .inl ⟨_,Heap.qj e3,QF e1,e⟩
  .obtain⟨kk,s0,rfl,q2,q3,q4⟩:=v2 j z T;simp only[Qa]at hb;have ak:sm.getD kk 0=s0:=by rw[List.getD_eq_getElem?_getD,q2];rfl
   rw[ak]at hb;exact .inr ⟨s0,z,QF q2,q3,W,hb⟩
 have aa:∀{x},BS (zAc E hm sm) (λi=>β (sm.getD i 0)) H V x->BS E β st.H st.V x:=λI=>by
  rcases hB I with⟨q,N,_,e⟩|⟨s0,z,_,h1,h2,h3⟩
  .exact .inl ⟨q,N,e⟩
  .exact .inr ⟨s0,z,h1,h2,h3⟩
 have aw:∀p∈st.H,p.1 ∉ hm->¬BS (zAc E hm sm) (λi=>β (sm.getD i 0)) H V (E.ρ p.1):=λp f S I=>by
  rcases hB I with⟨q,N,bk,e⟩|⟨s0,z,_,h1,h2,h3⟩
  .exact S (s.hr.inj p f q N e.symm▸bk)
  .exact(s.bz s0 z _ h1 h2 h3).2 p f rfl
 have ad:∀j z b,st.V.get j=some z->z.qA=true->β j=some b->j ∉ sm->¬BS (zAc E hm sm) (λi=>β (sm.getD i 0)) H V b:=λj z b h1 h2 h3 S I=>by
  rcases hB I with⟨q,N,_,e⟩|⟨s0,ao,a6,K,A,k3⟩
  .exact(s.bz j z b h1 h2 h3).2 q N e
  .exact S (s.qU j s0 z ao b h1 K h2 A h3 k3▸a6)
 have bt:∀b,E.Z b->¬BS (zAc E hm sm) (λi=>β (sm.getD i 0)) H V b:=λb hz I=>by
  rcases hB I with⟨q,N,_,e⟩|⟨s0,ao,a6,K,A,k3⟩
  .exact s.hr.nz q N (e▸hz)
  .exact(s.bz s0 ao b K A k3).1 hz
 have hZ:∀b,E.Z b->E'.Z b/\w'.heap[b]? = w.heap[b]?:=λb hb=>⟨O.qJ b hb,O.qM b (s.hr.wi b hb) (bt b hb)⟩
 have U:∀j z b,st.V.get j=some z->z.qA=true->β j=some b->b<w.heap.size:=λj z b h1 h2 h3=>(s.qW j z h1).2.lt h2 h3
 let E2:Env:=⟨λh=>if h<st.m then E.ρ h else E'.ρ (h-st.m+hm.length),λh=>E.D h\/(st.m<=h/\h<st.m+(H2.length-hm.length)),E'.Z,λi=>if i<st.mv then E.σ i else E'.σ (i-st.mv)⟩
 let β2:Nat->Option Nat:=λi=>if i<st.mv then β i else β' (i-st.mv)
 have σn:∀j,E2.σ (st.mv+j)=E'.σ j:=λj=>by
  show(if st.mv+j<st.mv then E.σ (st.mv+j)else E'.σ (st.mv+j-st.mv))=E'.σ j
  rw[if_neg (by omega),Nat.add_sub_cancel_left]
 have βn:∀j,β2 (st.mv+j)=β' j:=λj=>by
  show(if st.mv+j<st.mv then β (st.mv+j)else β' (st.mv+j-st.mv))=β' j
  rw[if_neg (by omega),Nat.add_sub_cancel_left]
 have σo:∀j,j<st.mv->E2.σ j=E.σ j:=λj T=>if_pos T
 have ρo:∀h,h<st.m->E2.ρ h=E.ρ h:=λh hh=>if_pos hh
 have ρn:∀i,hm.length<=i->E2.ρ (st.m+(i-hm.length))=E'.ρ i:=λi hi=>by
  show(if st.m+(i-hm.length)<st.m then _ else E'.ρ (st.m+(i-hm.length)-st.m+hm.length))=_
  rw[if_neg (by omega)]
  congr 1;omega
 have βo:∀j,j<st.mv->β2 j=β j:=λj T=>if_pos T
 have mo:∀{x:AV}{cx:Value},CP st.mv st.m x->VR E w x cx->VR E2 w' x cx:=λhc I=>
  VR.vG (E:=E) (E':=E2) (w:=w) (w':=w') (λh hl hh=>⟨.inl hh,ρo h hl⟩) hZ O.qp σo I hc
 have mn:∀{x:AV}{cx:Value},PP x->VR E' w' x cx->VR E2 w' x cx:=λf I=>VR.pp (E:=E') (E':=E2) (w:=w') (w':=w') (λb hb=>⟨hb,rfl⟩) I f
 have aj:VR E2 w' (ue hm st.m st.mv v) ag/\CP (st.mv+V2.length) (st.m+(H2.length-hm.length)) (ue hm st.m st.mv v):=by
  have one:∀{u:AV}{cu:Value},OP1 V2.length H2.length u->VR E' w' u cu->VR E2 w' (wK hm st.m st.mv u) cu/\CP (st.mv+V2.length) (st.m+(H2.length-hm.length)) (wK hm st.m st.mv u):=λ{u cu} hu hv=>by
   rcases hu with f|⟨j,rfl,T⟩|⟨i,o,rfl,hi⟩
   .rw[zS4 f];exact⟨mn f hv,f.cp⟩
   .refine⟨?_,.sym _ (Nat.add_lt_add_left T _)⟩
    cases hv with
    |sym _ _ he h1=>exact .sym _ _ (he.trans (σn j).symm) h1
   .unfold wK;dsimp only;split
    .rename_i hb;have hi:i<hm.length:=by simpa[Qi]using hb
     have aq:=QD hi;have ak:hm.getD i i=hm[i]:=by rw[List.getD_eq_getElem?_getD,aq];rfl
     have hk:i∈H2.keys:=by rw[B,List.mem_range'];exact⟨i,by omega,by omega⟩
     obtain⟨q,N,e⟩:=QR.1 hk;have bb:=hρ q N (e▸hi)
     rw[e,au aq]at bb;have bs:hm[i]∈st.H.keys:=by
      have bq:i∈H.keys:=by rw[g2,List.mem_range'];exact⟨i,hi,by omega⟩
      obtain⟨p,f,ep⟩:=QR.1 bq;obtain⟨j,h',str,F,af,e1,rfl,e3,e4⟩:=g3 p f;have ej:j=i:=by simpa using ep
      subst ej;rw[aq]at e1;cases e1;exact QR.2 ⟨_,Heap.qj e3,rfl⟩
     obtain⟨p0,bv,bn⟩:=QR.1 bs;have hD:E.D hm[i]:=bn▸s.hr.qy p0 bv
     have Q:=s.qy _ hD;rw[ak];refine⟨?_,.ptr _ _ (Nat.lt_add_right _ Q)⟩
     cases hv with
     |ptr _ _ hd=>
      rw[bb,←ρo _ Q];exact VR.ptr (E:=E2) _ _ (.inl hD)
    .rename_i hb;have hb:hm.length<=i:=zKq hb;refine⟨?_,.ptr _ _ (by omega)⟩
     cases hv with
     |ptr _ _ hd=>
      rw[←ρn i hb];exact VR.ptr (E:=E2) _ _ (.inr ⟨by omega,by omega⟩)
  rcases o.pp with f|⟨l,rfl,hl⟩
  .cases v with
   |qd l=>
    rcases f with f|⟨_,e,_⟩|⟨_,_,e,_⟩
    .rw[zY6 f];exact⟨mn f hv,f.cp⟩
    .cases e
    .cases e
   |_=>exact one f hv
  .show VR E2 w' (.qd (l.map (wK hm st.m st.mv))) ag/\CP (st.mv+V2.length) (st.m+(H2.length-hm.length)) (.qd (l.map (wK hm st.m st.mv)))
   cases hv with
   |qd _ vs J hr=>
    have bm:∀(i:Nat)(y:AV),l[i]?=some y->∃u,vs[i]?=some u:=λi y h=>by
     have:=(QC.1 h).1;exact⟨_,Qf (J▸this)⟩
    refine⟨.qd _ _ (by rw[QG];exact J) λi x u I hu=>?_,.qd _ λe he=>?_⟩
    .rw[Qb]at I;cases h:l[i]? with
     |none=>rw[h]at I;cases I
     |some y=>
      rw[h]at I;cases I;exact(one (hl y (QF h)) (hr i y u h hu)).1
    .obtain⟨y,hy,rfl⟩:=QR.1 he;obtain⟨i,hi⟩:=List.getElem?_of_mem hy;obtain⟨u,hu⟩:=bm i y hi;exact(one (hl y hy) (hr i y u hi hu)).2
 have M:∀{p:Nat×HO},p∈zFy hm st.mv H2 st.H->∃o,(p.1,o)∈st.H:=λ{p} f=>by
  rcases zFW J B ac f with⟨h,_⟩|⟨_,_,_,o,_,_,_,h⟩
  .exact⟨p.2,h⟩
  .exact⟨o,h⟩
 have be:∀{i h:Nat},hm[i]?=some h->i<hm.length:=λe=>(QC.1 e).1
 have ah:∀{i:Nat}{h:Nat}{oo:HO},hm[i]?=some h->(i,oo)∈H2->E'.ρ i=E.ρ h:=λh1 h2=>(hρ _ h2 (be h1)).trans (au h1)
 have ab:∀{x},BS E' β' H2 V2 x->∀p∈st.H,p.1 ∉ hm->E.ρ p.1≠x:=λ{x} I p f S e=>by
  rcases O.own x I with h|h
  .exact aw p f S (e▸h)
  .have:=s.hr.lt f;omega
 have we:∀{p:Nat×HO},p∈zFy hm st.mv H2 st.H->p.1<st.m:=λ{p} f=>by
  obtain⟨o,h⟩:=M f;exact a8 (p.1,o) h
 have az:∀{p:Nat×HO}{i:Nat}{str:Bool}{F:JE},p∈zFy hm st.mv H2 st.H->hm.length<=i->(i,HO.cells str F)∈H2->E.ρ p.1≠E'.ρ i:=λ{p i str F} f hi a7 e=>by
  rcases zFW J B ac f with⟨h,S⟩|⟨j,bw,b0,o2,K,A,k3,k4⟩
  .exact ab (.inl ⟨_,a7,rfl⟩) p h S e
  .rw[←ah K A]at e;have:=s'.hr.inj _ A _ a7 e;have hl:=be K;simp only at this;omega
 have Y:∀{i:Nat}{str:Bool}{F:JE}{h:Nat},(i,HO.cells str F)∈H2->E2.ρ h=E'.ρ i->OR E2 w' (E2.ρ h) (.cells str (F.map (rnB st.mv))):=λ{i str F h} A e=>by
  have ba:=s'.hr.obj _ A;simp only at ba;rw[e];obtain⟨cc,ee,ff,q1,q2,q3,q4⟩:=ba;refine⟨cc,ee,ff,q1,by simpa using q2,q3,λi2 x I=>?_⟩
  rw[Qb]at I;cases hc2:F[i2]? with
  |none=>rw[hc2]at I;cases I
  |some c=>
   rw[hc2]at I;cases I;obtain⟨u,r1,r2,r3⟩:=q4 i2 c hc2;refine⟨u,r1,r2,?_⟩
   obtain⟨ai,af,ec,ax⟩:=o.cells _ A;cases ec;rcases ax c (QF hc2)with ae|⟨j,rfl,T⟩
   .have:rnB st.mv c=c:=zVg ae;rw[this];exact mn ae r3
   .cases r3 with
    |sym _ _ he h1=>exact .sym _ _ (he.trans (σn j).symm) h1
 have ay:∀{i:Nat}{str:Bool}{F:JE},(i,HO.cells str F)∈H2->∀c∈F.map (rnB st.mv),CP (st.mv+V2.length) (st.m+(H2.length-hm.length)) c:=λ{i str F} A c hc=>by
  obtain⟨c0,vM,rfl⟩:=QR.1 hc;obtain⟨ai,af,ec,ax⟩:=o.cells _ A;cases ec;rcases ax c0 vM with ae|⟨j,rfl,T⟩
  .have:rnB st.mv c0=c0:=zVg ae;rw[this];exact ae.cp
  .exact .sym _ (Nat.add_lt_add_left T _)
 refine⟨E2,β2,⟨⟨?_,λp f=>?_,λp f q N e=>?_,λp f=>?_,λp f=>?_,s'.hr.wi⟩,?_,λg u hg=>⟨VR.pp (E:=E) (E':=E2) (w:=w) (w':=w') hZ (s.hg g u hg).1 (hG g u hg),(s.hg g u hg).2.mono O.qp⟩,λh hD=>?_,?_,λp f=>?_,λj z T=>?_,λj j2 i off T=>?_,λj z b T W hb=>?_,λj R z X b h1 h2 h3 h4 h5 h6=>?_⟩,?_⟩
 .show(Heap.keys (zFy hm st.mv H2 st.H++zFx hm.length st.m st.mv H2)).Nodup
  unfold Heap.keys;rw[Qu];refine List.nodup_append.2 ⟨?_,zJq s'.hr.nodup,λx I y hy e=>?_⟩
  .show(zFy hm st.mv H2 st.H).keys.Nodup
   rw[zSt];exact s.hr.nodup
  .obtain⟨p,f,rfl⟩:=QR.1 I;obtain⟨q,N,rfl⟩:=QR.1 hy;obtain⟨i,_,_,h1,h2,_⟩:=zAB N;have:=we f;omega
 .rcases QI.1 f with f|f
  .obtain⟨o,h⟩:=M f;exact .inl (s.hr.qy (p.1,o) h)
  .obtain⟨i,str,F,h1,h2,h3,_⟩:=zAB f;have hk:i<H2.length:=by
    have:i∈H2.keys:=QR.2 ⟨_,h3,rfl⟩;rw[B,List.mem_range']at this;obtain⟨a,b,c⟩:=this;omega
   exact .inr ⟨by omega,by omega⟩
 .rcases QI.1 f with f|f
  .rcases QI.1 N with N|N
   .obtain⟨o1,h1⟩:=M f;obtain⟨o2,h2⟩:=M N;rw[ρo _ (we f),ρo _ (we N)]at e;exact s.hr.inj (p.1,o1) h1 (q.1,o2) h2 e
   .obtain⟨i,str,F,h1,h2,h3,_⟩:=zAB N;rw[ρo _ (we f),h2,ρn i h1]at e;exact(az f h1 h3 e).elim
  .obtain⟨i,str,F,h1,h2,h3,_⟩:=zAB f;rcases QI.1 N with N|N
   .rw[ρo _ (we N),h2,ρn i h1]at e;exact(az N h1 h3 e.symm).elim
   .obtain⟨i',ai,af,bu,bc,bo,_⟩:=zAB N;rw[h2,ρn i h1,bc,ρn i' bu]at e;have:=s'.hr.inj _ h3 _ bo e;simp only at this;rw[h2,bc,this]
 .rcases QI.1 f with f|f
  .rcases zFW J B ac f with⟨h,S⟩|⟨i,str,F,o2,K,A,k3,k4⟩
   .obtain⟨str,F,e,ar⟩:=s.cH p h;have:=s.hr.obj p h;rw[e]at this⊢;rw[ρo _ (we f)];exact OR.vG (O.qM _ (s.hr.lt h) (aw p h S)) (λhc hv=>mo hc hv) ar this
   .rw[k3];exact Y A ((ρo _ (we f)).trans (ah K A).symm)
  .obtain⟨i,str,F,h1,h2,h3,h4⟩:=zAB f;rw[h4];exact Y h3 (by rw[h2];exact ρn i h1)
 .rcases QI.1 f with f|f
  .rw[ρo _ (we f)];rcases zFW J B ac f with⟨h,S⟩|⟨i,str,F,o2,K,A,k3,k4⟩
   .intro hz;rcases O.qS _ hz with h1|h1|h1
    .exact s.hr.nz p h h1
    .exact aw p h S h1
    .have:=s.hr.lt h;have h1:w.heap.size<=E.ρ p.1:=h1;omega
   .have:=s'.hr.nz _ A;simp only at this;rw[ah K A]at this;exact this
  .obtain⟨i,str,F,h1,h2,h3,h4⟩:=zAB f;rw[h2,ρn i h1];exact s'.hr.nz _ h3
 .exact s.hf.uM s.wa (λhc hv=>mo hc hv) hd aj.1
 .rcases hD with h1|⟨_,h1⟩
  .exact Nat.lt_add_right _ (s.qy h h1)
  .exact h1
 .exact(s.wa.mono (Qq _ _) (Qq _ _)).qv aj.2
 .rcases QI.1 f with f|f
  .rcases zFW J B ac f with⟨h,S⟩|⟨i,str,F,o2,K,A,k3,k4⟩
   .obtain⟨str,F,e,ar⟩:=s.cH p h;exact⟨str,F,e,λc hc=>(ar c hc).mono (Qq _ _) (Qq _ _)⟩
   .exact⟨str,_,k3,ay A⟩
  .obtain⟨i,str,F,h1,h2,h3,h4⟩:=zAB f;exact⟨str,_,h4,ay h3⟩
 .rcases zC2 T with⟨R,rfl,h1⟩|⟨S,h1⟩
  .obtain⟨K,A⟩:=s'.qW R z h1;refine⟨Nat.add_lt_add_left K _,?_⟩
   cases z with
   |vec sz es=>
    obtain⟨f,⟨e1,e2,e3⟩|⟨b,str,F,cp,ex,e1,e2,e3,e4,e5,e6⟩⟩:=A
    .exact⟨f,.inl ⟨(βn R).trans e1,(σn R).trans e2,e3⟩⟩
    .exact⟨f,.inr ⟨b,str,F,cp,ex,(βn R).trans e1,OR.pp (E:=E') (E':=E2) (w:=w') (w':=w') rfl (λb hb=>⟨hb,rfl⟩) e4 e2,by rw[σn];exact e3,e4,e5,e6⟩⟩
   |mp es=>
    obtain⟨f,b,e1,e2,e3⟩:=A;exact⟨f,b,(βn R).trans e1,OR.pm (E:=E') (E':=E2) (w:=w') (w':=w') rfl (λb hb=>⟨hb,rfl⟩) f e2,(σn R).trans e3⟩
   |qX j2 i off=>
    have:=o.qA _ _ h1;cases this
  .obtain⟨K,A⟩:=s.qW j z h1;refine⟨Nat.lt_add_right _ K,A.mono (σo j K) (λ_=>βo j K) (λb W hb=>O.qM b (U j z b h1 W hb) (ad j z b h1 W hb S)) hZ O.qp λj2 i off e sz es bp=>?_⟩
   subst e;have Q:=s.vp j j2 i off h1;rcases zC2 bp with⟨R,e1,_⟩|⟨_,h2⟩
   .omega
   .exact⟨βo j2 Q,es,h2,rfl⟩
 .rcases zC2 T with⟨R,rfl,h1⟩|⟨S,h1⟩
  .have:=o.qA _ _ h1;cases this
  .exact Nat.lt_add_right _ (s.vp j j2 i off h1)
 .rcases zC2 T with⟨R,rfl,h1⟩|⟨S,h1⟩
  .rw[βn]at hb;obtain⟨z1,z2⟩:=s'.bz R z b h1 W hb;refine⟨z1,λp f e=>?_⟩
   rcases QI.1 f with f|f
   .rw[ρo _ (we f)]at e;rcases zFW J B ac f with⟨h,S⟩|⟨i,str,F,o2,K,A,k3,k4⟩
    .exact ab (.inr ⟨R,z,h1,W,hb⟩) p h S e
    .exact z2 _ A ((ah K A).trans e)
   .obtain⟨i,str,F,q1,q2,q3,q4⟩:=zAB f;rw[q2,ρn i q1]at e;exact z2 _ q3 e
  .have Q:=(s.qW j z h1).1;rw[βo j Q]at hb;obtain⟨z1,z2⟩:=s.bz j z b h1 W hb;refine⟨λhz=>?_,λp f e=>?_⟩
   .rcases O.qS _ hz with k|k|k
    .exact z1 k
    .exact ad j z b h1 W hb S k
    .have:=U j z b h1 W hb;omega
   .rcases QI.1 f with f|f
    .rw[ρo _ (we f)]at e;obtain⟨oo,h⟩:=M f;exact z2 _ h e
    .obtain⟨i,str,F,q1,q2,q3,q4⟩:=zAB f;rw[q2,ρn i q1]at e;rcases O.own b (.inl ⟨_,q3,e⟩)with k|k
     .exact ad j z b h1 W hb S k
     .have:=U j z b h1 W hb;omega
 .rcases zC2 h1 with⟨i1,rfl,K⟩|⟨bh,K⟩
  .rcases zC2 h2 with⟨i2,rfl,A⟩|⟨bf,A⟩
   .rw[βn]at h5 h6;rw[s'.qU i1 i2 z X b K A h3 h4 h5 h6]
   .have Q:=(s.qW R X A).1;rw[βn]at h5;rw[βo R Q]at h6;rcases O.own b (.inr ⟨i1,z,K,h3,h5⟩)with k|k
    .exact(ad R X b A h4 h6 bf k).elim
    .have:=U R X b A h4 h6;omega
  .have Q:=(s.qW j z K).1;rw[βo j Q]at h5;rcases zC2 h2 with⟨i2,rfl,A⟩|⟨bf,A⟩
   .rw[βn]at h6;rcases O.own b (.inr ⟨i2,X,A,h4,h6⟩)with k|k
    .exact(ad j z b K h3 h5 bh k).elim
    .have:=U j z b K h3 h5;omega
   .have bg:=(s.qW R X A).1;rw[βo R bg]at h6;exact s.qU j R z X b K A h3 h4 h5 h6
 .refine⟨O.qJ,λx I=>?_,λx I=>?_,O.tape,O.os,O.output,O.size,λx I hb=>O.qM x I λh=>hb (aa h),O.qp⟩
  .rcases O.qS x I with h|h|h
   .exact .inl h
   .exact .inr (.inl (aa h))
   .exact .inr (.inr h)
  .rcases I with⟨p,f,e⟩|⟨j,z,T,W,hb⟩
   .rcases QI.1 f with f|f
    .rw[ρo _ (we f)]at e;obtain⟨oo,h⟩:=M f;exact .inl (.inl ⟨_,h,e⟩)
    .obtain⟨i,str,F,q1,q2,q3,q4⟩:=zAB f;rw[q2,ρn i q1]at e;rcases O.own x (.inl ⟨_,q3,e⟩)with k|k
     .exact .inl (aa k)
     .exact .inr k
   .rcases zC2 T with⟨R,rfl,h1⟩|⟨S,h1⟩
    .rw[βn]at hb;rcases O.own x (.inr ⟨R,z,h1,W,hb⟩)with k|k
     .exact .inl (aa k)
     .exact .inr k
    .rw[βo j (s.qW j z h1).1]at hb;exact .inl (.inr ⟨j,z,h1,W,hb⟩)
theorem Vecs.get_map{g:Nat->VI->VI}:∀{V:Vecs}{j:Nat},Vecs.get (V.map λp=>(p.1,g p.1 p.2)) j=(Vecs.get V j).map (g j)
 |[],j=>rfl
 |(k,o)::r,j=>by
  rw[QZ,Vecs.qi,Vecs.qi];split
  .rename_i e;subst e;rfl
  .exact Vecs.get_map
def zUt(sm:JV)(V2:Vecs)(k:Nat)(o:VI):VI:=match posN k 0 sm with
 |some i=>match V2.get i with
  |some b=>b
  |none=>o
 |none=>o
theorem zTQ{sm:JV}{V2 V:Vecs}{j:Nat}{vi:VI}(h:(zKk sm V2 V).get j=some vi):∃b,V.get j=some b/\((∃i,posN j 0 sm=some i/\V2.get i=some vi)\/(vi=b/\∀i,posN j 0 sm=some i->V2.get i=none)):=by
 have e:zKk sm V2 V=V.map λp=>(p.1,zUt sm V2 p.1 p.2):=by
  unfold zKk;apply List.map_congr_left
  rintro ⟨k,o⟩ _
  unfold zUt;dsimp only;cases posN k 0 sm with
  |none=>rfl
  |some i=>dsimp only;cases V2.get i<;>rfl
 rw[e,Vecs.get_map (g:=zUt sm V2)]at h;unfold zUt at h;cases hv:V.get j with
 |none=>rw[hv]at h;cases h
 |some b=>
  rw[hv]at h;simp only[Option.map_some,QK]at h;refine⟨b,rfl,?_⟩
  cases hp:posN j 0 sm with
  |none=>rw[hp]at h;exact .inr ⟨h.symm,λi hi=>by cases hi⟩
  |some i=>
   rw[hp]at h;simp only at h;cases hq:V2.get i with
   |none=>rw[hq]at h;exact .inr ⟨h.symm,λi' hi=>by cases hi;exact hq⟩
   |some x=>rw[hq]at h;simp only at h;subst h;exact .inl ⟨i,rfl,hq⟩
theorem SR.u4(hG:GPP G)(s:SR G nt E w a β st){sm:JV}{V V2:Vecs}(cv:CanV [] sm st [] V){v:AV}{Y:Value}(o:PP v)
  (hl:∀j vi,V.get j=some vi->∃sz es l,vi=.vec sz es/\V2.get j=some (.vec sz l)/\l.length=es.length) {E':Env} {w':World} (hv:VR E' w' v Y) (hσ:E'.σ=(zAc E [] sm).σ)
  (s':SR G 0 E' w' { tmps:=#[],defers:=[] } (λi=>β (sm.getD i 0)) ⟨[],[],V2,0,V.length⟩) (z:Kp (zAc E [] sm).Z (BS (zAc E [] sm) (λi=>β (sm.getD i 0)) [] V) w E'.Z (BS E' (λi=>β (sm.getD i 0)) [] V2) w') {d:Option Nat} (hd:∀n,d=some n->n<nt):
  ∃B β2,SR G nt B w' (a.put d Y) β2 ⟨qv st.fr d v,st.H,zKk sm V2 st.V,st.m,st.mv⟩/\Kp E.Z (BS E β st.H st.V) w B.Z (BS B β2 st.H (zKk sm V2 st.V)) w':=by
 obtain⟨v1,v2⟩:=zJA cv.rv;have v3:=zTP cv.rv;have ae:∀{i j:Nat},posN j 0 sm=some i->sm.getD i 0=j/\j∈sm:=λ{i j} h=>by
  obtain⟨k,e1,R⟩:=zEv h;have:i=k:=by omega
  subst this;exact⟨by rw[List.getD_eq_getElem?_getD,R];rfl,QF R⟩
 have hB:∀{x},BS (zAc E [] sm) (λi=>β (sm.getD i 0)) [] V x->∃A vi,A∈sm/\st.V.get A=some vi/\vi.qA=true/\β A=some x:=by
  rintro x (⟨p,o,e⟩|⟨j,vi,N,K,hb⟩)
  .cases o
  .obtain⟨kk,A,rfl,T,q3,q4⟩:=v2 j vi N;simp only[Qa]at hb;have ag:sm.getD kk 0=A:=by rw[List.getD_eq_getElem?_getD,T];rfl
   rw[ag]at hb;exact⟨A,vi,QF T,q3,K,hb⟩
 have S:∀{x},BS (zAc E [] sm) (λi=>β (sm.getD i 0)) [] V x->BS E β st.H st.V x:=λy=>by
  obtain⟨A,vi,_,h1,h2,h3⟩:=hB y;exact .inr ⟨A,vi,h1,h2,h3⟩
 have af:∀p∈st.H,¬BS (zAc E [] sm) (λi=>β (sm.getD i 0)) [] V (E.ρ p.1):=λp o y=>by
  obtain⟨A,vi,_,h1,h2,h3⟩:=hB y;exact(s.bz A vi _ h1 h2 h3).2 p o rfl
 have ad:∀j vi b,st.V.get j=some vi->vi.qA=true->β j=some b->j ∉ sm->¬BS (zAc E [] sm) (λi=>β (sm.getD i 0)) [] V b:=λj vi b h1 h2 h3 hn y=>by
  obtain⟨A,f,aa,O,M,k3⟩:=hB y;exact hn (s.qU j A vi f b h1 O h2 M h3 k3▸aa)
 have aq:∀b,E.Z b->¬BS (zAc E [] sm) (λi=>β (sm.getD i 0)) [] V b:=λb W y=>by
  obtain⟨A,f,aa,O,M,k3⟩:=hB y;exact(s.bz A f b O M k3).1 W
 have hZ:∀b,E.Z b->E'.Z b/\w'.heap[b]? = w.heap[b]?:=λb hb=>⟨z.qJ b hb,z.qM b (s.hr.wi b hb) (aq b hb)⟩
 have Q:∀j vi b,st.V.get j=some vi->vi.qA=true->β j=some b->b<w.heap.size:=λj vi b h1 h2 h3=>(s.qW j vi h1).2.lt h2 h3
 let B:Env:=⟨E.ρ,E.D,E'.Z,E.σ⟩
 have σn:∀{i j},posN j 0 sm=some i->E'.σ i=E.σ j:=λ{i j} h=>by
  rw[hσ];show E.σ (sm.getD i 0)=E.σ j
  rw[(ae h).1]
 have βn:∀{i j},posN j 0 sm=some i->(λi=>β (sm.getD i 0)) i=β j:=λ{i j} h=>by
  show β (sm.getD i 0)=β j
  rw[(ae h).1]
 have mo:∀{x:AV}{X:Value},CP st.mv st.m x->VR E w x X->VR B w' x X:=λhc y=>
  VR.vG (E:=E) (E':=B) (w:=w) (w':=w') (λh _ hh=>⟨hh,rfl⟩) hZ z.qp (λ_ _=>rfl) y hc
 have mn:∀{x:AV}{X:Value},PP x->VR E' w' x X->VR B w' x X:=λo y=>VR.pp (E:=E') (E':=B) (w:=w') (w':=w') (λb hb=>⟨hb,rfl⟩) y o
 have ab:∀{i j},posN j 0 sm=some i->∃vi,V.get i=some vi/\st.V.get j=some vi:=λ{i j} h=>by
  obtain⟨k,e1,R⟩:=zEv h;have:i=k:=by omega
  subst this;obtain⟨vi,a1,a2⟩:=v3 i j R;exact⟨vi,by simpa using a1,a2⟩
 have I:∀{j vi},(zKk sm V2 st.V).get j=some vi->(∃i sz es l,posN j 0 sm=some i/\V2.get i=some vi/\vi=.vec sz l/\st.V.get j=some (.vec sz es)/\l.length=es.length)\/(st.V.get j=some vi/\j ∉ sm):=λ{j vi} h=>by
  obtain⟨f,U,⟨i,h1,h2⟩|⟨rfl,h2⟩⟩:=zTQ h
  .obtain⟨J,O,M⟩:=ab h1;obtain⟨sz,es,l,q1,T,q3⟩:=hl i J O;subst q1;rw[T]at h2;cases h2;exact .inl ⟨i,sz,es,l,h1,T,rfl,M,q3⟩
  .refine .inr ⟨U,?_⟩
   cases o:posN j 0 sm with
   |none=>exact zPp o
   |some i=>
    obtain⟨J,O,M⟩:=ab o;obtain⟨sz,es,l,q1,T,q3⟩:=hl i J O;rw[h2 i o]at T;cases T
 have q:∀{j vi},(zKk sm V2 st.V).get j=some vi->∃f,st.V.get j=some f/\f.qA=vi.qA:=λ{j vi} h=>by
  rcases I h with⟨i,sz,es,l,_,_,rfl,k,_⟩|⟨k,_⟩
  .exact⟨_,k,rfl⟩
  .exact⟨_,k,rfl⟩
 refine⟨B,β,⟨⟨s.hr.nodup,s.hr.qy,s.hr.inj,λp o=>?_,λp o W=>?_,s'.hr.wi⟩,?_,λg u hg=>⟨VR.pp (E:=E) (E':=B) (w:=w) (w':=w') hZ (s.hg g u hg).1 (hG g u hg),(s.hg g u hg).2.mono z.qp⟩,s.qy,?_,s.cH,λj vi N=>?_,λj j2 i off N=>?_,λj vi b N K hb=>?_,λj j' vi au b h1 h2 h3 h4 h5 h6=>?_⟩,?_⟩
 .obtain⟨str,cs,e,aj⟩:=s.cH p o;have:=s.hr.obj p o;rw[e]at this⊢;exact OR.vG (z.qM _ (s.hr.lt o) (af p o)) (λhc hv=>mo hc hv) aj this
 .rcases z.qS _ W with h1|h1|h1
  .exact s.hr.nz p o h1
  .exact af p o h1
  .have:=s.hr.lt o;have h1:w.heap.size<=E.ρ p.1:=h1;omega
 .exact s.hf.uM s.wa (λhc hv=>mo hc hv) hd (mn o hv)
 .exact s.wa.qv o.cp
 .rcases I N with⟨i,sz,es,l,h1,h2,rfl,h4,h5⟩|⟨h1,hn⟩
  .obtain⟨O,M⟩:=s'.qW i _ h2;refine⟨(s.qW j _ h4).1,?_⟩
   obtain⟨ac,⟨e1,R,e3⟩|⟨b,str,cs,cp,ex,e1,R,e3,e4,e5,e6⟩⟩:=M
   .exact⟨ac,.inl ⟨(βn h1).symm.trans e1,(σn h1).symm.trans R,e3⟩⟩
   .refine⟨ac,.inr ⟨b,str,cs,cp,ex,(βn h1).symm.trans e1,OR.pp (E:=E') (E':=B) (w:=w') (w':=w') rfl (λb hb=>⟨hb,rfl⟩) e4 R,?_,e4,e5,e6⟩⟩
    have:B.σ j=E'.σ i:=(σn h1).symm;rw[this];exact e3
  .obtain⟨O,M⟩:=s.qW j vi h1;refine⟨O,M.mono rfl (λ_=>rfl) (λb K hb=>z.qM b (Q j vi b h1 K hb) (ad j vi b h1 K hb hn)) hZ z.qp λj2 i off e sz es ao=>?_⟩
   refine⟨rfl,?_⟩
   rcases I ao with⟨i',ar,ai,l,a1,a2,a3,a4,a5⟩|⟨a1,_⟩
   .cases a3;exact⟨ai,a4,a5.symm⟩
   .exact⟨es,a1,rfl⟩
 .rcases I N with⟨_,_,_,_,_,_,e,_⟩|⟨h1,_⟩
  .cases e
  .exact s.vp j j2 i off h1
 .obtain⟨f,U,F⟩:=q N;obtain⟨z1,z2⟩:=s.bz j f b U (F.trans K) hb;refine⟨λW=>?_,z2⟩
  rcases I N with⟨i,sz,es,l,h1,h2,rfl,h4,h5⟩|⟨h1,hn⟩
  .exact(s'.bz i _ b h2 rfl ((βn h1).trans hb)).1 W
  .rcases z.qS _ W with k|k|k
   .exact z1 k
   .exact ad j vi b h1 K hb hn k
   .have:=Q j vi b h1 K hb;omega
 .obtain⟨f,U,F⟩:=q h1;obtain⟨J,ah,ak⟩:=q h2;exact s.qU j j' f J b U ah (F.trans h3) (ak.trans h4) h5 h6
 .refine⟨z.qJ,λx y=>?_,λx y=>?_,z.tape,z.os,z.output,z.size,λx y hb=>z.qM x y λh=>hb (S h),z.qp⟩
  .rcases z.qS x y with h|h|h
   .exact .inl h
   .exact .inr (.inl (S h))
   .exact .inr (.inr h)
  .rcases y with⟨p,o,e⟩|⟨j,vi,N,K,hb⟩
   .exact .inl (.inl ⟨p,o,e⟩)
   .obtain⟨f,U,F⟩:=q N;exact .inl (.inr ⟨j,f,U,F.trans K,hb⟩)
theorem zKr{H:Heap}{h sz h2:Nat}{v:AV}{es:JE}(e:zLR H h sz v=some (h2,es)):∃l c x str cs,v=.row h2 0 l sz c x/\h2≠h/\H.get h2=some (.cells str cs)/\cs.length=l*sz/\zC6 sz l cs=some es/\es.all (ppS 12)=true:=by
 unfold zLR at e;split at e
 .split at e
  .rename_i hb;split at e
   .rename_i b;split at e
    .rename_i f;split at e
     .rename_i i;split at e
      .rename_i d;cases e;simp only[QA,Bool.not_eq_true']at hb;obtain⟨a1,a2,a3⟩:=hb;have a1:=zb a1;have a2:=zb a2;subst a1;subst a2;exact⟨_,_,_,_,_,rfl,zAU a3,b,zb f,i,d⟩
      .cases e
     .cases e
    .cases e
   .cases e
  .cases e
 .cases e
theorem Heap.qR:∀{H:Heap}{h k:Nat},h≠k->(H.del h).get k=H.get k
 |[],_,_,_=>rfl
 |(i,o)::r,h,k,b=>by
  simp only[Heap.del];split
  .rename_i hb;have:=zb hb;subst this;have:Nat.beq i k=false:=by
    cases e:Nat.beq i k with
    |false=>rfl
    |true=>exact absurd (zb e) b
   simp only[Heap.get,this]
  .simp only[Heap.get];split
   .rfl
   .exact Heap.qR b
theorem SR.uy(hG:GPP G)(s:SR G nt E w a β st){h sz h2:Nat}{v:AV}{es:JE}{u:Value}(ht:zLR st.H h sz v=some (h2,es))(hu:VR E w v u):
  ∃β',SR G nt ⟨E.ρ,E.D,E.Z,λi=>if i=st.mv then u else E.σ i⟩ w a β' ⟨st.fr,st.H.del h2,(st.mv,.vec sz es)::st.V,st.m,st.mv+1⟩/\u.oneCell'=true/\Kp E.Z (BS E β st.H st.V) w E.Z (BS ⟨E.ρ,E.D,E.Z,λi=>if i=st.mv then u else E.σ i⟩ β' (st.H.del h2) ((st.mv,.vec sz es)::st.V)) w:=by
 obtain⟨l,cp,ex,str,O,rfl,_,N,hl,hr,o⟩:=zKr ht;have I:=zHQ.uJ hu;have hσ:∀i,i<st.mv->(if i=st.mv then u else E.σ i)=E.σ i:=λi hi=>by
  have:i≠st.mv:=by omega
  simp[this]
 have X:∀{v:AV}{cv:Value},CP st.mv st.m v->VR E w v cv->VR ⟨E.ρ,E.D,E.Z,λi=>if i=st.mv then u else E.σ i⟩ w v cv:=λhc R=>
  VR.vG (E:=E) (E':=⟨E.ρ,E.D,E.Z,λi=>if i=st.mv then u else E.σ i⟩) (w:=w) (w':=w) (λh _ hh=>⟨hh,rfl⟩) (λb hb=>⟨hb,rfl⟩) (.refl w) hσ R hc
 have z:∀j y,st.V.get j=some y->j≠st.mv:=λj y h=>by have:=(s.qW j y h).1;omega
 have f:=Heap.qj N;have d:∀{p:Nat×HO},p∈st.H.del h2->p∈st.H/\p.1≠h2:=λo=>Heap.vu s.hr.nodup o
 obtain⟨q1,q2,q3,q4,U⟩:=zAk hr;obtain⟨_,_,ec,M⟩:=s.cH _ f;cases ec;have B:∀e∈es,PP e:=by
  intro e he;obtain⟨i,hi⟩:=List.getElem?_of_mem he;obtain⟨_,p2⟩:=z9 U;obtain⟨_,p4,p5⟩:=zV (p2 i e hi);refine zCv (n:=st.mv) (k:=st.m) 12 (zCp p5 λx W=>M x ?_) (QH.1 o e he)
  rw[p4]at W;exact QO (QX (QO W))
 have A:∀c∈O,PP c:=by
  rw[List.take_of_length_le (by omega)]at U
  exact zGj U B
 have J:zHQ w (E.ρ h2) es.length sz cp ex u:=by rw[q2];exact I
 refine⟨λj=>if j=st.mv then some (E.ρ h2)else β j,⟨⟨(s.hr.sub (Heap.wz _ _)).nodup,λp o=>s.hr.qy p (d o).1,λp o q hq e=>s.hr.inj p (d o).1 q (d hq).1 e,λp o=>?_,λp o=>s.hr.nz p (d o).1,s.hr.wi⟩,⟨s.hf.size,λt v hu=>X (s.wa t v hu) (s.hf.get t v hu)⟩,λg v N=>⟨X (hG g v N).cp (s.hg g v N).1,(s.hg g v N).2⟩,s.qy,s.wa.mono (QV _) (QB _),λp o=>?_,λj y h=>?_,λj T i off h=>?_,λj y b h ho hb=>?_,λj S y F b h1 h2 h3 h4 Q K=>?_⟩,I.one,?_⟩
 .obtain⟨str,O,e,A⟩:=s.cH p (d o).1;have:=s.hr.obj p (d o).1;rw[e]at this⊢;exact OR.vG rfl (λhc R=>X hc R) A this
 .obtain⟨str,O,e,A⟩:=s.cH p (d o).1;exact⟨str,O,e,λc hc=>(A c hc).mono (QV _) (QB _)⟩
 .rw[Vecs.qi]at h;split at h
  .rename_i e;subst e;cases h;refine⟨QS _,B,.inr ⟨E.ρ h2,str,O,cp,ex,by simp,?_,by simpa using J,A,by rw[q2];exact q4,by rw[q2];exact U⟩⟩
   exact OR.vG rfl (λhc R=>X hc R) M (s.hr.obj _ f)
  .have h1:=s.qW j y h;refine⟨Nat.lt_succ_of_lt h1.1,h1.2.mono (by simp[z j y h]) (λ_=>by simp[z j y h]) (λb _ _=>rfl) (λb hb=>⟨hb,rfl⟩) (.refl w) λT i off e sz es B=>?_⟩
   subst e;have:=s.vp j T i off h;rw[Vecs.qi,if_neg (by omega)]at B
   have Y:T≠st.mv:=by omega
   exact⟨by simp[Y],es,B,rfl⟩
 .rw[Vecs.qi]at h;split at h
  .cases h
  .exact Nat.lt_succ_of_lt (s.vp j T i off h)
 .rw[Vecs.qi]at h;split at h
  .rename_i e;subst e;simp only[if_true,QK]at hb;subst hb;exact⟨s.hr.nz _ f,λp o e=>(d o).2 (s.hr.inj p (d o).1 _ f e)⟩
  .simp only[if_neg (z j y h)]at hb;obtain⟨z1,z2⟩:=s.bz j y b h ho hb;exact⟨z1,λp o=>z2 p (d o).1⟩
 .rw[Vecs.qi]at h1 h2;split at h1
  .rename_i e;subst e;split at h2
   .rename_i e;exact e
   .simp only[if_true,QK]at Q;simp only[if_neg (z S F h2)]at K;subst Q;exact absurd rfl ((s.bz S F _ h2 h4 K).2 _ f)
  .simp only[if_neg (z j y h1)]at Q;split at h2
   .rename_i e;subst e;simp only[if_true,QK]at K;subst K;exact absurd rfl ((s.bz j y _ h1 h3 Q).2 _ f)
   .simp only[if_neg (z S F h2)]at K;exact s.qU j S y F b h1 h2 h3 h4 Q K
 .refine Kp.less λx W=>?_
  rcases W with⟨p,o,e⟩|⟨j,y,h1,h2,h3⟩
  .exact .inl ⟨p,(d o).1,e⟩
  .rw[Vecs.qi]at h1;split at h1
   .rename_i e;subst e;simp only[if_true,QK]at h3;exact .inl ⟨_,f,h3⟩
   .simp only[if_neg (z j y h1)]at h3;exact .inr ⟨j,y,h1,h2,h3⟩
theorem SR.uL(s:SR G nt E w a β st){h i:Nat}{str:Bool}{cs:JE}{v':AV}(N:st.H.get h=some (.cells str cs))(O:∀c e f,w.heap[E.ρ h]?=some (Obj.cells c e f)->∃u,c[i]?=some u/\u.oneCell'=true/\VR E w v' u)(hc:CP st.mv st.m v'):
  SR G nt E w a β ⟨st.fr,st.H.put h (.cells str (cs.set i v')),st.V,st.m,st.mv⟩/\∀x,BS E β (st.H.put h (.cells str (cs.set i v'))) st.V x->BS E β st.H st.V x:=by
 have l:=Heap.qj N;have k:∀{p:Nat×HO},p∈st.H.put h (.cells str (cs.set i v'))->∃o,(p.1,o)∈st.H:=λ{p} d=>by
  rcases zC8 d with rfl|d
  .exact⟨_,l⟩
  .exact⟨p.2,d⟩
 refine⟨⟨⟨?_,λp d=>?_,λp d q F e=>?_,λp d=>?_,λp d=>?_,s.hr.wi⟩,s.hf,s.hg,s.qy,s.wa,λp d=>?_,s.qW,s.vp,λj Q b h v hb=>?_,s.qU⟩,λx n=>?_⟩
 .show(st.H.put h _).keys.Nodup
  rw[Heap.wO];exact s.hr.nodup
 .obtain⟨o,v⟩:=k d;exact s.hr.qy (p.1,o) v
 .obtain⟨o1,h1⟩:=k d;obtain⟨K,h2⟩:=k F;exact s.hr.inj (p.1,o1) h1 (q.1,K) h2 e
 .rcases zC8 d with rfl|d
  .obtain⟨A,B,ff,q1,R,J,M⟩:=s.hr.obj _ l;refine⟨A,B,ff,q1,by simpa using R,J,λi2 x n=>?_⟩
   rw[List.getElem?_set]at n;split at n
   .rename_i e;subst e;split at n
    .cases n;exact O A B ff q1
    .cases n
   .exact M i2 x n
  .exact s.hr.obj p d
 .obtain⟨o,v⟩:=k d;exact s.hr.nz (p.1,o) v
 .rcases zC8 d with rfl|d
  .obtain⟨_,_,D,z⟩:=s.cH _ l;cases D;refine⟨str,_,rfl,λc y=>?_⟩
   rcases List.mem_or_eq_of_mem_set y with h|rfl
   .exact z c h
   .exact hc
  .exact s.cH p d
 .obtain⟨I,z2⟩:=s.bz j Q b h v hb;refine⟨I,λp d=>?_⟩
  obtain⟨o,h1⟩:=k d;exact z2 (p.1,o) h1
 .rcases n with⟨p,d,e⟩|h
  .obtain⟨o,v⟩:=k d;exact .inl ⟨_,v,e⟩
  .exact .inr h
theorem SR.uV(y:GPP G)(s:SR G nt E w a β st){h i sz h2:Nat}{str:Bool}{cs:JE}{v:AV}{es:JE}(l:st.H.get h=some (.cells str cs))(hi:cs[i]?=some v)(k:zLR st.H h sz v=some (h2,es)):
  ∃E' b,SR G nt E' w a b ⟨st.fr,(st.H.del h2).put h (.cells str (cs.set i (.sym st.mv))),(st.mv,.vec sz es)::st.V,st.m,st.mv+1⟩/\Kp E.Z (BS E β st.H st.V) w E'.Z (BS E' b ((st.H.del h2).put h (.cells str (cs.set i (.sym st.mv)))) ((st.mv,.vec sz es)::st.V)) w:=by
 obtain⟨z,D,ff,q1,F,A,x⟩:=s.hr.obj _ (Heap.qj l);obtain⟨u,q,n,p⟩:=x i v hi;obtain⟨b,s1,B,o⟩:=s.uy y k p;obtain⟨_,_,_,_,_,_,d,_⟩:=zKr k;have j:(st.H.del h2).get h=some (.cells str cs):=(Heap.qR d).trans l;obtain⟨s2,hb⟩:=s1.uL (i:=i) (v':=.sym st.mv) j (λc e f hc=>by
  have hc:w.heap[E.ρ h]?=some (Obj.cells c e f):=hc;rw[q1]at hc;cases hc;exact⟨u,q,n,.sym _ _ (by simp) n⟩) (.sym _ (QS _))
 exact⟨_,b,s2,o.trans (Kp.less hb)⟩
theorem SR.uZ(i:GPP G)(s:SR G nt E w a β st){t sz k h2:Nat}{v:AV}{es:JE}(j:st.fr.get t=some v)(f:zLR st.H k sz v=some (h2,es)):
  ∃E' b,SR G nt E' w a b ⟨st.fr.put t (.sym st.mv),st.H.del h2,(st.mv,.vec sz es)::st.V,st.m,st.mv+1⟩/\Kp E.Z (BS E β st.H st.V) w E'.Z (BS E' b (st.H.del h2) ((st.mv,.vec sz es)::st.V)) w:=by
 obtain⟨b,s1,h,d⟩:=s.uy i f (s.hf.get _ _ j);refine⟨_,b,⟨s1.hr,⟨s1.hf.size,λu x hu=>?_⟩,s1.hg,s1.qy,λu x hu=>?_,s1.cH,s1.qW,s1.vp,s1.bz,s1.qU⟩,d⟩
 .rw[Fr.qu]at hu;split at hu
  .rename_i e;subst e;cases hu;exact .sym _ _ (by simp) h
  .exact s1.hf.get u x hu
 .rw[Fr.qu]at hu;split at hu
  .cases hu;exact .sym _ (QS _)
  .exact s1.wa u x hu
theorem SR.uS(hG:GPP G)(s:SR G nt E w a β st){h i sz:Nat}{str:Bool}{cs:JE}(T:st.H.get h=some (.cells str cs))(hi:cs[i]?=some .qa):
  ∃E' β',SR G nt E' w a β' ⟨st.fr,st.H.put h (.cells str (cs.set i (.sym st.mv))),(st.mv,.vec sz [])::st.V,st.m,st.mv+1⟩/\Kp E.Z (BS E β st.H st.V) w E'.Z (BS E' β' (st.H.put h (.cells str (cs.set i (.sym st.mv)))) ((st.mv,.vec sz [])::st.V)) w:=by
 have hσ:∀i,i<st.mv->(if i=st.mv then Value.slice none 0 0 else E.σ i)=E.σ i:=λi hi=>by
  have:i≠st.mv:=by omega
  simp[this]
 have K:∀{v:AV}{B:Value},CP st.mv st.m v->VR E w v B->VR ⟨E.ρ,E.D,E.Z,λi=>if i=st.mv then .slice none 0 0 else E.σ i⟩ w v B:=λhc X=>
  VR.vG (E:=E) (E':=⟨E.ρ,E.D,E.Z,λi=>if i=st.mv then .slice none 0 0 else E.σ i⟩) (w:=w) (w':=w) (λh _ T=>⟨T,rfl⟩) (λb hb=>⟨hb,rfl⟩) (.refl w) hσ X hc
 have n:∀j f,st.V.get j=some f->j≠st.mv:=λj f h=>by have:=(s.qW j f h).1;omega
 have l:=Heap.qj T;have y:∀{p:Nat×HO},p∈st.H.put h (.cells str (cs.set i (.sym st.mv)))->∃o,(p.1,o)∈st.H:=λ{p} d=>by
  rcases zC8 d with rfl|d
  .exact⟨_,l⟩
  .exact⟨p.2,d⟩
 refine⟨⟨E.ρ,E.D,E.Z,λi=>if i=st.mv then .slice none 0 0 else E.σ i⟩,λj=>if j=st.mv then none else β j,⟨⟨?_,λp d=>?_,λp d q hq e=>?_,λp d=>?_,λp d=>?_,s.hr.wi⟩,⟨s.hf.size,λu v hu=>K (s.wa u v hu) (s.hf.get u v hu)⟩,λg u R=>⟨K (hG g u R).cp (s.hg g u R).1,(s.hg g u R).2⟩,s.qy,s.wa.mono (QV _) (QB _),λp d=>?_,λj f h=>?_,λj J i off h=>?_,λj f b h A hb=>?_,λj Y f F b h1 h2 h3 h4 S W=>?_⟩,?_⟩
 .show(st.H.put h _).keys.Nodup
  rw[Heap.wO];exact s.hr.nodup
 .obtain⟨o,A⟩:=y d;exact s.hr.qy (p.1,o) A
 .obtain⟨o1,h1⟩:=y d;obtain⟨o2,h2⟩:=y hq;exact s.hr.inj (p.1,o1) h1 (q.1,o2) h2 e
 .rcases zC8 d with rfl|d
  .obtain⟨_,_,Q,k⟩:=s.cH _ l;cases Q;obtain⟨cc,ee,ff,q1,q2,q3,q4⟩:=s.hr.obj _ l;refine⟨cc,ee,ff,q1,by simpa using q2,q3,λi2 x z=>?_⟩
   rw[List.getElem?_set]at z;split at z
   .rename_i e;subst e;split at z
    .cases z;obtain⟨u,O,U,M⟩:=q4 i _ hi;refine⟨u,O,U,?_⟩
     have hz:∀{B:Value},VR E w .qa B->B=.slice none 0 0:=λh=>by cases h;rfl
     rw[hz M];exact .sym _ _ (by simp only[if_true]) rfl
    .cases z
   .obtain⟨u,O,U,M⟩:=q4 i2 x z;exact⟨u,O,U,K (k x (QF z)) M⟩
  .obtain⟨str,cs,e,k⟩:=s.cH p d;have:=s.hr.obj p d;rw[e]at this⊢;exact OR.vG rfl (λhc X=>K hc X) k this
 .obtain⟨o,A⟩:=y d;exact s.hr.nz (p.1,o) A
 .rcases zC8 d with rfl|d
  .obtain⟨_,_,Q,k⟩:=s.cH _ l;cases Q;refine⟨str,_,rfl,λc hc=>?_⟩
   rcases List.mem_or_eq_of_mem_set hc with h|rfl
   .exact(k c h).mono (QV _) (QB _)
   .exact .sym _ (QS _)
  .obtain⟨str,cs,e,k⟩:=s.cH p d;exact⟨str,cs,e,λc hc=>(k c hc).mono (QV _) (QB _)⟩
 .rw[Vecs.qi]at h;split at h
  .rename_i e;subst e;cases h;exact⟨QS _,λe he=>(by cases he),.inl ⟨by simp,by simp,rfl⟩⟩
  .have h1:=s.qW j f h;refine⟨Nat.lt_succ_of_lt h1.1,h1.2.mono (by simp[n j f h]) (λ_=>by simp[n j f h]) (λb _ _=>rfl) (λb hb=>⟨hb,rfl⟩) (.refl w) λJ i off e sz es I=>?_⟩
   subst e;have:=s.vp j J i off h;rw[Vecs.qi,if_neg (by omega)]at I
   have N:J≠st.mv:=by omega
   exact⟨by simp[N],es,I,rfl⟩
 .rw[Vecs.qi]at h;split at h
  .cases h
  .exact Nat.lt_succ_of_lt (s.vp j J i off h)
 .rw[Vecs.qi]at h;split at h
  .rename_i e;subst e;simp at hb
  .simp only[if_neg (n j f h)]at hb;obtain⟨z1,z2⟩:=s.bz j f b h A hb;refine⟨z1,λp d=>?_⟩
   obtain⟨o,h1⟩:=y d;exact z2 (p.1,o) h1
 .rw[Vecs.qi]at h1 h2;split at h1
  .rename_i e;subst e;simp at S
  .split at h2
   .rename_i e;subst e;simp at W
   .simp only[if_neg (n j f h1)]at S;simp only[if_neg (n Y F h2)]at W;exact s.qU j Y f F b h1 h2 h3 h4 S W
 .refine Kp.less λx z=>?_
  rcases z with⟨p,d,e⟩|⟨j,f,h1,h2,h3⟩
  .obtain⟨o,A⟩:=y d;exact .inl ⟨_,A,e⟩
  .rw[Vecs.qi]at h1;split at h1
   .rename_i e;subst e;simp at h3
   .simp only[if_neg (n j f h1)]at h3;exact .inr ⟨j,f,h1,h2,h3⟩
theorem SR.qE(b:GPP G){h:Nat}:∀{g:JN}{E:Env}{β:Nat->Option Nat}{st:Sta},SR G nt E w a β st->(qE h g st).fr=st.fr/\∃E' n,SR G nt E' w a n (qE h g st)/\Kp E.Z (BS E β st.H st.V) w E'.Z (BS E' n (qE h g st).H (qE h g st).V) w
 |[],E,β,st,s=>⟨rfl,E,β,s,Kp.refl⟩
 |(i,sz)::g,E,β,st,s=>by
  simp only[Sy.qE];split
  .rename_i str u l;split
   .rename_i hi;obtain⟨q,p,s1,d⟩:=s.uS b l hi (sz:=sz);obtain⟨e,j,f,s2,k⟩:=SR.qE b (g:=g) s1;exact⟨e,j,f,s2,d.trans k⟩
   .rename_i v _ hi;split
    .rename_i h2 x o;obtain⟨q,p,s1,d⟩:=s.uV b l hi o;obtain⟨e,j,f,s2,k⟩:=SR.qE b (g:=g) s1;exact⟨e,j,f,s2,d.trans k⟩
    .exact SR.qE b (g:=g) s
   .exact SR.qE b (g:=g) s
  .exact⟨rfl,E,β,s,Kp.refl⟩
theorem SR.qL(d:GPP G){g:JN}{args:JE}(s:SR G nt E w a β st):(qL g args st).fr=st.fr/\∃E' b,SR G nt E' w a b (qL g args st)/\Kp E.Z (BS E β st.H st.V) w E'.Z (BS E' b (qL g args st).H (qL g args st).V) w:=by
 unfold Sy.qL;split
 .exact SR.qE d s
 .exact⟨rfl,E,β,s,Kp.refl⟩
theorem zWJ{o:Oper}{n:XO}{k:AV->Sta->Prop}(c:Ctx P G nt Z0 B0 w0 dl E w a β st o n){e:HEnt}(he:HOK P G e){args:JE}
  (hk:(∃xs,n=.call e.f xs/\evs G st.fr xs=some args)\/∃z xs first d vs,n=.qO z xs/\z.ev G st.fr=some (.func (.func e.f) first d)/\evs G st.fr xs=some vs/\args=first++vs++d) (h:zEY e args st k):OpK P G nt Z0 B0 w0 dl o w a k:=by
 intro next Q hn;unfold zEY at h;obtain⟨aa,E1,β1,s1,D⟩:=c.s.qL c.hG (g:=e.grow) (args:=args);generalize qL e.grow args st=j at *;have N:(∃xs,n=.call e.f xs/\evs G j.fr xs=some args)\/∃z xs first d vs,n=.qO z xs/\z.ev G j.fr=some (.func (.func e.f) first d)/\evs G j.fr xs=some vs/\args=first++vs++d:=by rw[aa];exact hk
 obtain⟨l,hv,ac⟩:=zXG s1.hr s1.hf s1.hg c.hc he.1 N;have R:∀x∈args,CP j.mv j.m x:=by
  rcases N with⟨xs,rfl,M⟩|⟨z,xs,first,d,vs,rfl,h1,h2,rfl⟩
  .have q:xs.all zG=true:=by have:=c.ok;simp only[zx,XO.qb,z7,QT]at this;exact this
   exact zFT c.hG s1.wa q M
  .have q:zG z=true/\xs.all zG=true:=by have:=c.ok;simp only[zx,XO.qb,z7,List.all_append,QY,List.all_nil,QT,QA]at this;exact this
   intro x p;have U:=zY c.hG s1.wa q.1 h1;cases U with
   |func _ _ _ q1 q2=>
    rcases QI.1 p with p|p
    .rcases QI.1 p with p|p
     .exact q1 x p
     .exact zFT c.hG s1.wa q.2 h2 x p
    .exact q2 x p
 unfold zKY at h;obtain⟨A,H,V,⟨O,b⟩,cv,_,I,u,K,_⟩:=zLW c.hG s1 R hv h;split at b
 rotate_left
 .exact b.elim
 rename_i v H2 V2 X;obtain⟨ho,i⟩:=he.2 _ _ _ _ _ _ O X;unfold Oper.wp;rw[ac];unfold zKl zLT at b;cases hi:inpl e.grow with
 |false=>
  rw[hi]at i b;have i:HFn P G e.f A H V v H2 V2:=i;refine(i _ w _ l (K 0 { tmps:=#[],defers:=[] } [] ⟨rfl,λt v h=>by cases h⟩ (λt v h=>by cases h)) I u).mono λee w' M=>?_
  obtain⟨y,E',β',rfl,k1,T,Y,k4⟩:=M;obtain⟨S,W,s2,B⟩:=s1.back c.hG cv ho k1 T Y k4 c.hd;exact hn _ _ y S w' b ⟨W,s2,(c.kp.trans D).trans B,by rw[DRun.put_defers];exact c.df⟩
 |true=>
  rw[hi]at i b;obtain⟨rfl,rfl,J,F,i⟩:=i;have ab:=(zK2 cv.rh).1;generalize zEX j.H 30 0 (args.foldl (λa v=>hsA 8 v a) (List.range 0))=hm at *
  have:hm=[]:=by
   cases hm with
   |nil=>rfl
   |cons a r=>simp at ab
  subst this;refine(i _ w _ l (K 0 { tmps:=#[],defers:=[] } [] ⟨rfl,λt v h=>by cases h⟩ (λt v h=>by cases h)) I u).mono λee w' M=>?_
  obtain⟨y,E',rfl,k1,T,Y,k4⟩:=M;obtain⟨S,W,s2,B⟩:=s1.u4 c.hG cv J F k1 T Y k4 c.hd;exact hn _ _ y S w' b ⟨W,s2,(c.kp.trans D).trans B,by rw[DRun.put_defers];exact c.df⟩
theorem HOK.of{e:HEnt}(hi:inpl e.grow=false)(h1:Enters P e.f)(h2:∀args H V v H2 V2,e.pre args H V->e.val args H V=some (v,H2,V2)->HOut v H H2 V2/\HFn P G e.f args H V v H2 V2):HOK P G e:=
 ⟨h1,λargs H V v H2 V2 a b=>⟨(h2 args H V v H2 V2 a b).1,by rw[hi];exact(h2 args H V v H2 V2 a b).2⟩⟩
theorem HOK.jj{e:HEnt}(d:HOK P G e)(hi:inpl e.grow=true){args:JE}{H H2:Heap}{V V2:Vecs}{v:AV}(a:e.pre args H V)(b:e.val args H V=some (v,H2,V2)):HOut v H H2 V2/\H=[]/\H2=[]/\PP v/\ze2 P G e.f args V v V2:=by
 have:=d.2 args H V v H2 V2 a b;rw[hi]at this;exact this
theorem zTR{b:List HEnt}{f:Nat}{e:HEnt}(h:zKm b f=some e):e∈b/\e.f=f:=by
 induction b with
 |nil=>cases h
 |cons s r d=>
  simp only[zKm]at h;split at h
  .rename_i q;cases h;exact⟨.head _,(zb q).symm⟩
  .exact⟨.tail _ (d h).1,(d h).2⟩
theorem zEw{F:JV}:∀{H:Heap}{p:Nat×HO},p∈zGh F H->p∈H/\inN p.1 F=true
 |[],_,h=>by cases h
 |q::r,p,h=>by
  unfold zGh at h;split at h
  .rename_i b;rcases QJ.1 h with rfl|h
   .exact⟨.head _,b⟩
   .exact⟨.tail _ (zEw h).1,(zEw h).2⟩
  .exact⟨.tail _ (zEw h).1,(zEw h).2⟩
theorem zPq{F:JV}:∀(H:Heap),(zGh F H).Sublist H
 |[]=>.slnil
 |q::r=>by
  unfold zGh;split
  .exact .cons_cons _ (zPq r)
  .exact .cons _ (zPq r)
theorem zAL{F:JV}:∀{H:Heap}{p:Nat×HO},p∈zNz F H->p∈H/\inN p.1 F=false
 |[],_,h=>by cases h
 |q::r,p,h=>by
  unfold zNz at h;split at h
  .exact⟨.tail _ (zAL h).1,(zAL h).2⟩
  .rename_i b;rcases QJ.1 h with rfl|h
   .exact⟨.head _,b⟩
   .exact⟨.tail _ (zAL h).1,(zAL h).2⟩
theorem zPr{F:JV}:∀(H:Heap),(zNz F H).Sublist H
 |[]=>.slnil
 |q::r=>by
  unfold zNz;split
  .exact .cons _ (zPr r)
  .exact .cons_cons _ (zPr r)
theorem zLX{b:Heap}{fr0:Fr}:∀{fr:Fr}{t:Nat}{u:AV},(zLU b fr0 fr).get t=some u->∃v,fr0.get t=some v/\u=zTs b v
 |[],_,_,h=>by cases h
 |(s,x)::r,t,u,h=>by
  unfold zLU at h;split at h
  .rename_i v d;simp only[Fr.get]at h;split at h
   .rename_i e;cases h;exact⟨v,by rw[←zb e];exact d,rfl⟩
   .exact zLX h
  .exact zLX h
theorem zQm{mv m:Nat}{H:Heap}(z:HCP mv m H):∀(d:Nat){v v':AV},CP mv m v->frz H [] d v=some v'->PP v':=by
 intro d
 induction d with
 |zero=>intro v v' _ h;cases h
 |succ d R=>
  intro v v' b h;have al:∀{l D:JE},(∀e∈l,CP mv m e)->zC (frz H [] d) l=some D->∀e∈D,PP e:=λN Q=>by
   obtain⟨m1,m2⟩:=zA1 Q;intro x j;obtain⟨i,hi⟩:=List.getElem?_of_mem j;have o:=(QC.1 hi).1;have B:=QD (show i<_ from m1▸o)
   exact R (N _ (QF B)) (m2 i _ x B hi)
  unfold frz at h;split at h
  .split at h
   .rename_i U;cases U
   .cases h
  .split at h
   .rename_i p;obtain⟨str,F,e,hc⟩:=z.get p;cases e;split at h
    .rename_i u f;cases h;exact .qc _ _ (.agg _ (al hc f))
    .cases h
   .cases h
  .cases b with
   |func _ _ _ S hb=>
    split at h
    .rename_i Y J;split at h
     .rename_i X T;cases h;exact .func _ _ _ (al S J) (al hb T)
     .cases h
    .cases h
  .cases b with
   |agg _ hc=>
    split at h
    .rename_i u f;cases h;exact .agg _ (al hc f)
    .cases h
  .split at h
   .rename_i p;obtain⟨str,F,e,hc⟩:=z.get p;cases e;split at h
    .split at h
     .rename_i y;split at h
      .rename_i q;cases h;refine .qf _ _ λe A=>?_
       obtain⟨h1,h2,h3,h4,I⟩:=zAk y;obtain⟨i,hi⟩:=List.getElem?_of_mem A;obtain⟨q1,W⟩:=z9 I;obtain⟨q3,M,K⟩:=zV (W i e hi);refine zCv (n:=mv) (k:=m) 8 (zCp K λx j=>hc x ?_) (QH.1 q e A)
       rw[M]at j;exact QX (QO (QX (QO j)))
      .cases h
     .cases h
    .cases h
   .cases h
  .split at h
   .cases h
   .rename_i O;cases h;exact zKL d b O
theorem Rs.froze{F:JV}{d:Option Nat}{v v':AV}{cv:Value}(hG:GPP G)(hd:∀n,d=some n->n<nt)(h:Rs G nt Z0 B0 w0 dl E w (a.put d cv) (st.put d v))(W:frz (zGh F st.H) [] 8 v=some v'):
  ∃E',Rs G nt Z0 B0 w0 dl E' w (a.put d cv) ((vO F (zGh F st.H) st).put d v'):=by
 obtain⟨β,s,X,S⟩:=h.out;generalize M:zGh F st.H=y at *;have k:∀p∈y,p∈st.H:=λp f=>(zEw (M▸f)).1
 have Q:SR G nt E w (a.put d cv) β ⟨qv st.fr d v,y,[],st.m,st.mv⟩:=
  ⟨s.hr.sub (M▸zPq st.H),s.hf,s.hg,s.qy,s.wa,λp f=>s.cH p (k p f),λj A J=>(by cases J),λj j2 i off J=>(by cases J),λj A b J=>(by cases J),λj j' A aa b J=>(by cases J)⟩
 let N:Env:=⟨E.ρ,E.D,λx=>E.Z x\/BS E β y [] x,E.σ⟩
 have up:∀{u I},VR (zBl E β y []) w u I->VR N w u I:=λhu=>VR.mono (E:=zBl E β y []) (E':=N) (λ_ h=>h.elim) (λb hb=>⟨hb,rfl⟩) (.refl w) hu
 have o:∀{u I},VR E w u I->VR N w u I:=λhu=>VR.mono (E:=E) (E':=N) (λ_ h=>⟨h,rfl⟩) (λb hb=>⟨.inl hb,rfl⟩) (.refl w) hu
 have B:∀x,BS E β y [] x->∃p∈y,E.ρ p.1=x:=λx l=>by
  rcases l with l|⟨j,A,J,_⟩
  .exact l
  .cases J
 have O:∀{u I},CP st.mv st.m u->VR E w u I->VR N w (zTs y u) I/\CP st.mv st.m (zTs y u):=λ{u I} hc hu=>by
  unfold zTs;split
  .exact⟨o hu,hc⟩
  .split
   .rename_i u' U;exact⟨up (zEu Q 8 hc hu U),(zQm Q.cH 8 hc U).cp⟩
   .exact⟨o hu,hc⟩
 have T:∀n,d=some n->VR E w v ((a.put d cv).tmps.getD n undef)/\CP st.mv st.m v:=λn e=>by
  subst e;have h1:(st.put (some n) v).fr.get n=some v:=by
   show(st.fr.put n v).get n=_
   rw[Fr.qu,if_pos rfl]
  exact⟨s.hf.get n v h1,s.wa n v h1⟩
 have qM:∀t u,d≠some t->st.fr.get t=some u->VR E w u ((a.put d cv).tmps.getD t undef)/\CP st.mv st.m u:=λt u R hu=>by
  have h1:(st.put d v).fr.get t=some u:=by
   cases d with
   |none=>exact hu
   |some n=>
    show(st.fr.put n v).get t=_
    rw[Fr.qu,if_neg (λe=>R (by rw[e]))]
    exact hu
  exact⟨s.hf.get t u h1,s.wa t u h1⟩
 have K:∀t u,((vO F y st).put d v').fr.get t=some u->VR N w u ((a.put d cv).tmps.getD t undef)/\CP st.mv st.m u:=λt u hu=>by
  by_cases e:d=some t
  .subst e;obtain⟨h1,h2⟩:=T t rfl;have:u=v':=by
    have hu:((zLU y st.fr st.fr).put t v').get t=some u:=hu;rw[Fr.qu,if_pos rfl]at hu;cases hu;rfl
   subst this;exact⟨up (zEu Q 8 h2 h1 W),(zQm Q.cH 8 h2 W).cp⟩
  .have hu:(zLU y st.fr st.fr).get t=some u:=by
    cases d with
    |none=>exact hu
    |some n=>
     have hu:((zLU y st.fr st.fr).put n v').get t=some u:=hu;rw[Fr.qu,if_neg (λh=>e (by rw[h]))]at hu
     exact hu
   obtain⟨Y,h1,rfl⟩:=zLX hu;obtain⟨h2,h3⟩:=qM t Y e h1;exact O h3 h2
 refine⟨N,β,⟨⟨?_,?_,?_,?_,?_,?_⟩,⟨s.hf.size,λt u hu=>(K t u hu).1⟩,λg u h=>⟨o (s.hg g u h).1,(s.hg g u h).2⟩,s.qy,λt u hu=>(K t u hu).2,λp f=>s.cH p (zAL f).1,λj A h=>⟨(s.qW j A h).1,(s.qW j A h).2.mono rfl (λ_=>rfl) (λb _ _=>rfl) (λb hb=>⟨.inl hb,rfl⟩) (.refl w) λ_ _ _ _ sz es h=>⟨rfl,es,h,rfl⟩⟩,s.vp,λj A b h1 h2 h3=>⟨?_,λp f=>(s.bz j A b h1 h2 h3).2 p (zAL f).1⟩,s.qU⟩,X.trans ⟨λx l=>.inl l,λx l=>?_,λx l=>?_,rfl,rfl,rfl,QB _,λ_ _ _=>rfl,.refl w⟩,S⟩
 .exact(s.hr.sub (zPr (F:=F) st.H)).nodup
 .exact λp f=>s.hr.qy p (zAL f).1
 .exact λp f q z=>s.hr.inj p (zAL f).1 q (zAL z).1
 .exact λp f=>(s.hr.obj p (zAL f).1).mono rfl o
 .rintro p f (hz|hz)
  .exact s.hr.nz p (zAL f).1 hz
  .obtain⟨q,z,e⟩:=B _ hz;have:=s.hr.inj q (k q z) p (zAL f).1 e;have h1:=(zEw (M▸z)).2
   rw[this,(zAL f).2]at h1;cases h1
 .rintro b (hb|hb)
  .exact s.hr.wi b hb
  .obtain⟨q,z,rfl⟩:=B _ hb;exact s.hr.lt (k q z)
 .rintro (hz|hz)
  .exact(s.bz j A b h1 h2 h3).1 hz
  .obtain⟨q,z,e⟩:=B _ hz;exact(s.bz j A b h1 h2 h3).2 q (k q z) e
 .rcases l with l|l
  .exact .inl l
  .obtain⟨q,z,e⟩:=B _ l;exact .inr (.inl (.inl ⟨q,k q z,e⟩))
 .rcases l with⟨p,f,e⟩|l
  .exact .inl (.inl ⟨p,(zAL f).1,e⟩)
  .exact .inl (.inr l)
theorem Fr.get_map{g:AV->AV}:∀{fr:Fr}{t:Nat},Fr.get (fr.map λp=>(p.1,g p.2)) t=(Fr.get fr t).map g
 |[],t=>rfl
 |(k,o)::r,t=>by
  simp only[QZ,Fr.get];split
  .rfl
  .exact Fr.get_map
theorem Rs.vL{d:Option Nat}{v:AV}{cv:Value}(hd:∀n,d=some n->n<nt)(h:Rs G nt Z0 B0 w0 dl E w (a.put d cv) (st.put d v)):
  ∃E',Rs G nt Z0 B0 w0 dl E' w (a.put d cv) ((wy st).put d (wD st.V v)):=by
 obtain⟨β,s,k0,ab⟩:=h.out;have sF:SR G nt E w (a.put d cv) β ⟨qv st.fr d v,[],st.V,st.m,st.mv⟩:=
  ⟨⟨.nil,λp f=>(by cases f),λp f=>(by cases f),λp f=>(by cases f),λp f=>(by cases f),s.hr.wi⟩,s.hf,s.hg,s.qy,s.wa,λp f=>(by cases f),s.qW,s.vp,λj I b h1 h2 h3=>⟨(s.bz j I b h1 h2 h3).1,λp f=>(by cases f)⟩,s.qU⟩
 let J:Env:=⟨E.ρ,E.D,λx=>E.Z x\/BS E β [] st.V x,E.σ⟩
 have up:∀{u B},VR (zBl E β [] st.V) w u B->VR J w u B:=λhu=>VR.mono (E:=zBl E β [] st.V) (E':=J) (λ_ h=>h.elim) (λb hb=>⟨hb,rfl⟩) (.refl w) hu
 have z:∀{u B},VR E w u B->VR J w u B:=λhu=>VR.mono (E:=E) (E':=J) (λ_ h=>⟨h,rfl⟩) (λb hb=>⟨.inl hb,rfl⟩) (.refl w) hu
 have S:∀{x},BS E β [] st.V x->∃j I,st.V.get j=some I/\I.qA=true/\β j=some x:=λ{x} l=>by
  rcases l with⟨p,f,_⟩|h
  .cases f
  .exact h
 have sd:∀(k:Nat){u B},CP st.mv st.m u->VR E w u B->VR J w (wJ st.V k u) B/\CP st.mv st.m (wJ st.V k u):=by
  intro k
  induction k with
  |zero=>intro u B hc hu;exact⟨z hu,hc⟩
  |succ k ih=>
   intro u B hc hu;have al:∀{Q:JE}{N:JC},(∀e∈Q,CP st.mv st.m e)->VRs E w Q N->VRs J w (Q.map (wJ st.V k)) N/\∀e∈Q.map (wJ st.V k),CP st.mv st.m e:=λ{Q N} l O=>by
    have key:∀(i:Nat) x u,Q[i]?=some x->N[i]?=some u->VR J w (wJ st.V k x) u/\CP st.mv st.m (wJ st.V k x):=λi x u h1 h2=>ih (l x (QF h1)) (O.2 i x u h1 h2)
    refine⟨⟨by rw[QG];exact O.1,λi y u M hu=>?_⟩,λe he=>?_⟩
    .rw[Qb]at M;cases h:Q[i]? with
     |none=>rw[h]at M;cases M
     |some x=>rw[h]at M;cases M;exact(key i x u h hu).1
    .obtain⟨x,ac,rfl⟩:=QR.1 he;obtain⟨i,hi⟩:=List.getElem?_of_mem ac;have Y:i<N.length:=by have:=(QC.1 hi).1;have:=O.1;omega
     exact(key i x _ hi (QD Y)).2
   unfold wJ;split
   .rename_i j;split
    .rename_i sz es hV;have h1:frz [] st.V 1 (.sym j)=some (.qf sz es):=by simp only[frz,hV]
     exact⟨up (zEu sF 1 hc hu h1),.qf _ _ (s.qW j _ hV).2.1⟩
    .exact⟨z hu,hc⟩
   .cases hc with
    |agg _ F=>
     obtain⟨N,rfl,k1,k2⟩:=hu.qY;obtain⟨g1,g2⟩:=al F k1;exact⟨VR.qP g1 k2,.agg _ g2⟩
   .cases hc with
    |qd _ F=>
     obtain⟨N,rfl,k1⟩:=hu.va;obtain⟨g1,g2⟩:=al F k1;exact⟨VR.qG g1,.qd _ g2⟩
   .exact⟨z hu,hc⟩
 have sv:∀{u B},CP st.mv st.m u->VR E w u B->VR J w (wD st.V u) B/\CP st.mv st.m (wD st.V u):=λhc hu=>sd 4 hc hu
 have so:∀{p:Nat×HO},p∈st.H->OR J w (E.ρ p.1) (zVV st.V p.2)/\∃str W,zVV st.V p.2=.cells str W/\∀c∈W,CP st.mv st.m c:=λ{p} f=>by
  obtain⟨str,W,e,F⟩:=s.cH p f;have U:=s.hr.obj p f;rw[e]at U⊢;obtain⟨cc,ee,ff,q1,q2,q3,q4⟩:=U;refine⟨⟨cc,ee,ff,q1,by simpa using q2,q3,λi x l=>?_⟩,str,_,rfl,λc hc=>?_⟩
  .rw[Qb]at l;cases h:W[i]? with
   |none=>rw[h]at l;cases l
   |some y=>
    rw[h]at l;cases l;obtain⟨u,r1,r2,r3⟩:=q4 i y h;exact⟨u,r1,r2,(sd 4 (F y (QF h)) r3).1⟩
  .obtain⟨y,M,rfl⟩:=QR.1 hc;obtain⟨i,hi⟩:=List.getElem?_of_mem M;obtain⟨u,r1,r2,r3⟩:=q4 i y hi;exact(sd 4 (F y M) r3).2
 have o:∀{p:Nat×HO},p∈(wy st).H->∃q∈st.H,p=(q.1,zVV st.V q.2):=λ{p} f=>by
  obtain⟨q,A,e⟩:=QR.1 f;exact⟨q,A,e.symm⟩
 have ad:∀n,d=some n->VR E w v ((a.put d cv).tmps.getD n undef)/\CP st.mv st.m v:=λn e=>by
  subst e;have h1:(st.put (some n) v).fr.get n=some v:=by
   show(st.fr.put n v).get n=_
   rw[Fr.qu,if_pos rfl]
  exact⟨s.hf.get n v h1,s.wa n v h1⟩
 have qM:∀t u,d≠some t->st.fr.get t=some u->VR E w u ((a.put d cv).tmps.getD t undef)/\CP st.mv st.m u:=λt u X hu=>by
  have h1:(st.put d v).fr.get t=some u:=by
   cases d with
   |none=>exact hu
   |some n=>
    show(st.fr.put n v).get t=_
    rw[Fr.qu,if_neg (λe=>X (by rw[e]))]
    exact hu
  exact⟨s.hf.get t u h1,s.wa t u h1⟩
 have K:∀t u,((wy st).put d (wD st.V v)).fr.get t=some u->VR J w u ((a.put d cv).tmps.getD t undef)/\CP st.mv st.m u:=λt u hu=>by
  by_cases e:d=some t
  .subst e;obtain⟨h1,h2⟩:=ad t rfl;have hu:Fr.get (Fr.put (st.fr.map λp=>(p.1,wD st.V p.2)) t (wD st.V v)) t=some u:=hu
   rw[Fr.qu,if_pos rfl]at hu;cases hu;exact sv h2 h1
  .have hu:Fr.get (st.fr.map λp=>(p.1,wD st.V p.2)) t=some u:=by
    cases d with
    |none=>exact hu
    |some n=>
     have hu:Fr.get (Fr.put (st.fr.map λp=>(p.1,wD st.V p.2)) n (wD st.V v)) t=some u:=hu
     rw[Fr.qu,if_neg (λh=>e (by rw[h]))]at hu
     exact hu
   rw[Fr.get_map]at hu;cases hg:Fr.get st.fr t with
   |none=>rw[hg]at hu;cases hu
   |some u0=>
    rw[hg]at hu;cases hu;obtain⟨h2,h3⟩:=qM t u0 e hg;exact sv h3 h2
 have R:Heap.keys ((wy st).put d (wD st.V v)).H=Heap.keys st.H:=by
  show List.map Prod.fst (List.map (λp=>(p.1,zVV st.V p.2)) st.H)=List.map Prod.fst st.H
  rw[List.map_map];rfl
 refine⟨J,β,⟨⟨by rw[R];exact s.hr.nodup,λp f=>?_,λp f q A e=>?_,λp f=>?_,?_,?_⟩,⟨s.hf.size,λt u hu=>(K t u hu).1⟩,λg u h=>⟨z (s.hg g u h).1,(s.hg g u h).2⟩,s.qy,λt u hu=>(K t u hu).2,λp f=>?_,λj I h=>(by cases h),λj j2 i off h=>(by cases h),λj I b h=>(by cases h),λj j' I af b h=>(by cases h)⟩,k0.trans ⟨λx l=>.inl l,λx l=>?_,λx l=>?_,rfl,rfl,rfl,QB _,λ_ _ _=>rfl,.refl w⟩,ab⟩
 .obtain⟨q,A,rfl⟩:=o f;exact s.hr.qy q A
 .obtain⟨p0,ae,rfl⟩:=o f;obtain⟨q0,aa,rfl⟩:=o A;exact s.hr.inj p0 ae q0 aa e
 .obtain⟨q,A,rfl⟩:=o f;exact(so A).1
 .intro p f T;obtain⟨q,A,rfl⟩:=o f;rcases T with T|T
  .exact s.hr.nz q A T
  .obtain⟨j,I,h1,h2,h3⟩:=S T;exact(s.bz j I _ h1 h2 h3).2 q A rfl
 .rintro b (hb|hb)
  .exact s.hr.wi b hb
  .obtain⟨j,I,h1,h2,h3⟩:=S hb;exact(s.qW j I h1).2.lt h2 h3
 .obtain⟨q,A,rfl⟩:=o f;exact(so A).2
 .rcases l with l|l
  .exact .inl l
  .exact .inr (.inl (.inr (S l)))
 .rcases l with⟨p,f,e⟩|⟨j,I,h,_⟩
  .obtain⟨q,A,rfl⟩:=o f;exact .inl (.inl ⟨q,A,e⟩)
  .cases h
theorem zNE(u:TbW P G tb){o:Oper}{t:TOp}{k:AV->Sta->Prop}(c:Ctx P G nt Z0 B0 w0 dl E w a β st o t.o.op)(i:∀es,t.h=some es->∀e∈es,HOK P G e)(h:zB2 G tb st t k):OpK P G nt Z0 B0 w0 dl o w a k:=by
 unfold zB2 at h;split at h
 .exact zY5 u c h
 .rename_i es j;unfold zPh at h;split at h
  .rename_i f n b;rw[b]at c;split at h
   .rename_i e q;obtain⟨p,rfl⟩:=zTR q;split at h
    .rename_i v d;exact zWJ c (i es j e p) (.inl ⟨n,rfl,d⟩) h
    .exact h.elim
   .exact h.elim
  .rename_i y n b;rw[b]at c;split at h
   .rename_i f first l x;split at h
    .rename_i e q;obtain⟨p,rfl⟩:=zTR q;split at h
     .rename_i v d;exact zWJ c (i es j e p) (.inr ⟨y,n,first,l,v,rfl,x,d,rfl⟩) h
     .exact h.elim
    .exact h.elim
   .exact h.elim
  .exact h.elim
theorem zXH(i:TbW P G tb){o:Oper}{t:TOp}{k:AV->Sta->Prop}(c:Ctx P G nt Z0 B0 w0 dl E w a β st o t.o.op)(d:∀es,t.h=some es->∀e∈es,HOK P G e)(h:zLD G tb st t k):OpK P G nt Z0 B0 w0 dl o w a k:=by
 unfold zLD at h;split at h
 .have r:Rs G nt Z0 B0 w0 dl E w (a.put none (.tuple #[])) (st.put none (.qd [])):=⟨β,c.s,c.kp,c.df⟩;obtain⟨j,D,s2,A,d2⟩:=r.vL (λn e=>by cases e)
  exact zNE (t:=⟨t.o,t.ks.tail,t.h⟩) i ⟨s2,A,d2,c.hG,c.hm,c.hc,c.hd,c.ok⟩ d h
 split at h
 .rename_i u;have hd:zMW t.o.op=true:=by
   cases ho:t.o.op<;>rw[ho]at u<;>first|rfl|cases u
  have z:=c.wL (k:=λv st=>zTt st v k) hd h
  intro next Q x;refine z next Q λv l q F p b f=>?_
  have b:zTt l v k:=b;unfold zTt at b;split at b
  .obtain⟨j,h2⟩:=f.vL c.hd;exact x _ _ q j p b h2
  .simp only at b;split at b
   .rename_i y B;obtain⟨j,h2⟩:=f.froze c.hG c.hd B;exact x y _ q j p b h2
   .exact b.elim
 .exact zNE i c d h
end
section
variable{P:Program}{G:Cx}{nt:Nat}{E:Env}{w:World}{a:Act}{β:Nat->Option Nat}{st:Sta}
 {Z0 B0:Nat->Prop} {w0:World} {dl:List Deferred} {tb:TblS}
theorem SR.steps(s:SR G nt E w a β st){E':Env}{w':World}{B:Act}{H':Heap}{fr':Fr}{n:Nat}(o:HR E' H' w')(t:Tr E st.H w E' H' w' st.m n)(v:FrR E' w' fr' B nt)(A:zDj st.mv n fr')(z:HCP st.mv n H'):
  SR G nt E' w' B β ⟨fr',H',st.V,n,st.mv⟩/\Kp E.Z (BS E β st.H st.V) w E'.Z (BS E' β H' st.V) w':=by
 have k:∀b,E.Z b->E'.Z b/\w'.heap[b]? = w.heap[b]?:=λb hb=>⟨t.qJ b hb,t.qM b (s.hr.wi b hb) λp f e=>s.hr.nz p f (e▸hb)⟩
 have i:∀j d b,st.V.get j=some d->d.qA=true->β j=some b->b<w.heap.size/\w'.heap[b]? = w.heap[b]?:=λj d b h1 h2 h3=>by
  have h4:=(s.qW j d h1).2.lt h2 h3;exact⟨h4,t.qM b h4 λp f e=>(s.bz j d b h1 h2 h3).2 p f e⟩
 refine⟨⟨o,v,s.hg.step s.hr t,λh J=>?_,A,z,λj d h1=>⟨(s.qW j d h1).1,?_⟩,s.vp,λj d b h1 h2 h3=>⟨λF=>?_,λp f e=>?_⟩,s.qU⟩,?_⟩
 .rcases(t.qy h).1 J with h1|h1
  .exact QW (s.qy h h1) t.le
  .exact h1.2
 .exact(s.qW j d h1).2.mono (congrFun t.sig j) (λ_=>rfl) (λb I hb=>(i j d b h1 I hb).2) k t.qp λ_ _ _ _ M K h=>⟨rfl,K,h,rfl⟩
 .have h4:=s.bz j d b h1 h2 h3;rcases t.qS b F with y|⟨p,f,e⟩|y
  .exact h4.1 y
  .exact h4.2 p f e
  .have:=(i j d b h1 h2 h3).1;omega
 .have h4:=s.bz j d b h1 h2 h3;rcases t.own p f with⟨q,u,D⟩|y
  .exact h4.2 q u (D.trans e)
  .have:=(i j d b h1 h2 h3).1;omega
 .refine⟨t.qJ,λx l=>?_,λx l=>?_,t.tape,t.os,t.output,t.size,λx l hb=>t.qM x l λp f e=>hb (.inl ⟨p,f,e⟩),t.qp⟩
  .rcases t.qS x l with h|h|h
   .exact .inl h
   .exact .inr (.inl (.inl h))
   .exact .inr (.inr h)
  .rcases l with⟨p,f,rfl⟩|h
   .rcases t.own p f with⟨q,u,e⟩|h
    .exact .inl (.inl ⟨q,u,e⟩)
    .exact .inr h
   .exact .inl (.inr h)
theorem Rs.known(r:Rs G nt Z0 B0 w0 dl E w a st){n:Nat}{v:AV}(h:st.fr.get n=some v):Rs G nt Z0 B0 w0 dl E w a ⟨st.fr.put n v,st.H,st.V,st.m,st.mv⟩:=
 let ⟨β,s,k,d⟩:=r.out
 ⟨β,s.known h,k,d⟩
theorem Rs.skip(r:Rs G nt Z0 B0 w0 dl E w a st){d:Option Nat}(hd:∀n,d=some n->n<nt):Rs G nt Z0 B0 w0 dl E w (a.put d undef) (st.put d (.qd [])):=
 let ⟨β,s,k,df⟩:=r.out
 ⟨β,⟨s.hr,s.hf.put id hd (VR.qG (vs:=#[]) VRs.nil),s.hg,s.qy,s.wa.qv (.qd _ λe b=>by cases b),s.cH,s.qW,s.vp,s.bz,s.qU⟩,k,by rw[DRun.put_defers];exact df⟩
theorem WK.vr{E:Env}{w:World}{v v':AV}(h:WK v v'):∀{cv:Value},VR E w v cv->VR E w v' cv:=by
 induction h with
 |refl v=>exact id
 |nil q=>intro cv d;cases d;exact .wj _ _ _ (QN _)
 |qc off h f=>
  intro cv d;cases d with
  |qc _ _ b o cv k p d hc=>
   refine .qc _ _ b o cv ?_ p (f d) hc
   cases h<;>first|exact k|rfl|cases k
 |iface t h f=>intro cv d;cases d with|iface _ _ cv d=>exact .iface _ _ cv (f d)
 |agg j h f=>
  intro cv d;cases d with
  |agg _ n e h2 h1=>exact .agg _ n (j.symm.trans e) (λi x v l d=>by
    have hi:=(QC.1 l).1;have hc:=QD (show i<_ from j▸hi)
    exact f i _ x hc l (h2 i _ v hc d)) h1
 |qd j h f=>
  intro cv d;cases d with
  |qd _ n e h2=>exact .qd _ n (j.symm.trans e) (λi x v l d=>by
    have hi:=(QC.1 l).1;have hc:=QD (show i<_ from j▸hi)
    exact f i _ x hc l (h2 i _ v hc d))
theorem WK.pp{v v':AV}(h:WK v v'):PP v->PP v':=by
 have al:∀{l f:JE},l.length=f.length->(∀(i:Nat) c o,l[i]?=some c->f[i]?=some o->PP c->PP o)->(∀e∈l,PP e)->∀e∈f,PP e:=λj d h e n=>by
  obtain⟨i,hi⟩:=List.getElem?_of_mem n;have k:=(QC.1 hi).1;have hc:=QD (show i<_ from j.symm▸k)
  exact d i _ e hc hi (h _ (QF hc))
 induction h with
 |refl v=>exact id
 |nil p=>intro _;exact .qf _ _ λe n=>by cases n
 |qc off h d=>intro b;cases b with|qc _ _ b=>exact .qc _ _ (d b)
 |iface t h d=>intro b;cases b with|iface _ _ b=>exact .iface _ _ (d b)
 |agg j h d=>intro b;cases b with|agg _ b=>exact .agg _ (al j d b)
 |qd j h d=>intro b;cases b with|qd _ b=>exact .qd _ (al j d b)
theorem WK.cp{n k:Nat}{v v':AV}(h:WK v v'):CP n k v->CP n k v':=by
 have al:∀{o f:JE},o.length=f.length->(∀(i:Nat) c q,o[i]?=some c->f[i]?=some q->CP n k c->CP n k q)->(∀e∈o,CP n k e)->∀e∈f,CP n k e:=λj d h e p=>by
  obtain⟨i,hi⟩:=List.getElem?_of_mem p;have l:=(QC.1 hi).1;have hc:=QD (show i<_ from j.symm▸l)
  exact d i _ e hc hi (h _ (QF hc))
 induction h with
 |refl v=>exact id
 |nil u=>intro _;exact .qf _ _ λe p=>by cases p
 |qc off h d=>intro b;cases b with|qc _ _ b=>exact .qc _ _ (h.pp b)
 |iface t h d=>intro b;cases b with|iface _ _ b=>exact .iface _ _ (d b)
 |agg j h d=>intro b;cases b with|agg _ b=>exact .agg _ (al j d b)
 |qd j h d=>intro b;cases b with|qd _ b=>exact .qd _ (al j d b)
theorem Rs.u6{cv:Value}{d:Option Nat}{v v':AV}(r:Rs G nt Z0 B0 w0 dl E w (a.put d cv) (st.put d v))(h:WK v v'):Rs G nt Z0 B0 w0 dl E w (a.put d cv) (st.put d v'):=by
 cases d with
 |none=>exact r
 |some n=>
  obtain⟨β,s,j,i⟩:=r.out;have b:∀{t u},(st.fr.put n v').get t=some u->(t=n/\u=v')\/(t≠n/\(st.fr.put n v).get t=some u):=λ{t u} e=>by
   rw[Fr.qu]at e⊢;split at e
   .rename_i q;subst q;cases e;exact .inl ⟨rfl,rfl⟩
   .rename_i q;exact .inr ⟨λh=>q h.symm,by rw[if_neg q];exact e⟩
  have f:(st.fr.put n v).get n=some v:=by rw[Fr.qu,if_pos rfl]
  refine⟨β,⟨s.hr,⟨s.hf.size,λt u e=>?_⟩,s.hg,s.qy,λt u e=>?_,s.cH,s.qW,s.vp,s.bz,s.qU⟩,j,i⟩
  .rcases b e with⟨rfl,rfl⟩|⟨_,e⟩
   .exact h.vr (s.hf.get _ _ f)
   .exact s.hf.get t u e
  .rcases b e with⟨rfl,rfl⟩|⟨_,e⟩
   .exact h.cp (s.wa _ _ f)
   .exact s.wa t u e
def At(pn:JV)(a b:Act):Prop:=∀t∈pn,b.tmps.getD t undef=a.tmps.getD t undef
theorem At.refl{pn:JV}:At pn a a:=λ_ _=>rfl
theorem At.trans{pn:JV}{a1 a2:Act}(h:At pn a a1)(k:At pn a1 a2):At pn a a2:=λt b=>(k t b).trans (h t b)
theorem At.put{pn:JV}{d:Option Nat}{cv:Value}(h:∀n,d=some n->n ∉ pn):At pn a (a.put d cv):=by
 intro t b;cases d with
 |none=>rfl
 |some n=>
  have:n≠t:=λe=>h n rfl (e▸b)
  show(a.tmps.setIfInBounds n cv).getD t undef=a.tmps.getD t undef
  simp only[Array.getD_eq_getD_getElem?,Array.getElem?_setIfInBounds,if_neg this]
theorem zNF{pn:JV}{d:Option Nat}(h:(match d with|some d=>!inN d pn|none=>true)=true):∀n,d=some n->n ∉ pn:=by
 rintro n rfl
 simp only[Bool.not_eq_true']at h;exact zQl h
theorem zcs{call:Call}{pn:JV}{K:Fr->Heap->Nat->Prop}:∀(ops:List XOper){fr:Fr}{H:Heap}{nx:Nat},(∀o∈ops,∀n,o.dst=some n->n ∉ pn)->WN G call ops K fr H nx->WN G call ops (λfr' H' b=>K fr' H' b/\∀t∈pn,fr'.get t=fr.get t) fr H nx:=by
 have key:∀(ops:List XOper)(f:Fr){fr:Fr}{H:Heap}{nx:Nat},(∀o∈ops,∀n,o.dst=some n->n ∉ pn)->(∀t∈pn,fr.get t=f.get t)->WN G call ops K fr H nx->WN G call ops (λfr' H' b=>K fr' H' b/\∀t∈pn,fr'.get t=f.get t) fr H nx:=by
  intro ops
  induction ops with
  |nil=>intro f fr H nx _ h k;exact⟨k,h⟩
  |cons o r y=>
   intro f fr H nx hd h k;have d:∀{v:AV},∀t∈pn,(qv fr o.dst v).get t=f.get t:=λ{v} t p=>by
    cases hdd:o.dst with
    |none=>exact h t p
    |some n=>
     have:n ∉ pn:=hd o (.head _) n hdd;have i:n≠t:=λe=>this (e▸p)
     rw[zHX,Fr.qu];simp only[i,i.symm,if_false];exact h t p
   have j:=λ{fr H nx}=>y f (fr:=fr) (H:=H) (nx:=nx) λx u=>hd x (.tail _ u)
   simp only[WN]at k⊢;split at k
   .obtain⟨v,H',b,l,q⟩:=k;exact⟨v,H',b,l,j d q⟩
   .unfold zUp at k⊢;split at k
    .exact⟨λe=>let ⟨v,H',b,l,q⟩:=k.1 e;⟨v,H',b,l,j d q⟩,λe=>j d (k.2 e)⟩
    .exact j d k
    .exact k.elim
 exact λops fr H nx hd k=>key ops fr hd (λ_ _=>rfl) k
theorem zSu(J:TbW P G tb)(hG:GPP G)(hm:zAZ P G){pn:JV}{ops:Array Oper}{Q:Exit->Act->World->Prop}{K:Sta->Prop}:∀(ts:List TOp)(l:List Oper)(k:Nat){st:Sta},(∀j,l[j]? = ops[k+j]?)->ts.map TOp.o=l.map (zu P ops) →
  (∀o∈l,∀d,o.dst=some d->d<nt)->(∀t∈ts,zx t.o.op=true)->(∀t∈ts,∀es,t.h=some es->∀e∈es,HOK P G e)->(∀t∈ts,∀n,t.o.dst=some n->n ∉ pn)->zEp G tb ts K st->∀{E w a},Rs G nt Z0 B0 w0 dl E w a st->(∀B E' w' X,K B->Rs G nt Z0 B0 w0 dl E' w' X B->At pn a X->Q .normal X w')->wpOps P ops Q (List.range' k l.length) a w
 |[],[],k,st,_,_,_,_,_,_,h,E,w,a,r,F=>F st E w a h r .refl
 |[],o::l,k,st,_,I,_,_,_,_,h,E,w,a,r,F=>by cases I
 |t::ts,[],k,st,_,I,_,_,_,_,h,E,w,a,r,F=>by cases I
 |t::ts,o::l,k,st,U,I,i,S,N,D,h,E,w,a,r,F=>by
  simp only[QZ,List.cons.injEq]at I;obtain⟨T,e2⟩:=I;have ho:ops[k]?=some o:=by have:=U 0;simpa using this.symm
  have R:∀j,l[j]? = ops[k+1+j]?:=λj=>by have:=U (j+1);rw[List.getElem?_cons_succ]at this;rw[this];congr 1;omega
  have ab:∀o'∈l,∀d,o'.dst=some d->d<nt:=λo' A=>i o' (.tail _ A)
  have O:∀f∈ts,zx f.o.op=true:=λf A=>S f (.tail _ A)
  have x:t.o.dst=o.dst:=by rw[T];exact zBJ
  rw[QL,List.range'_succ,wpOps_cons];have ih:=λst h E w a r=>zSu J hG hm (Q:=Q) (K:=K) ts l (k+1) (st:=st) R e2 ab O (λf A=>N f (.tail _ A)) (λf A=>D f (.tail _ A)) h (E:=E) (w:=w) (a:=a) r
  have q:∀{st:Sta},Rs G nt Z0 B0 w0 dl E w a st->zB7 st.fr t.o.guard=some true->zLD G tb st t (λv st=>∃u,WK v u/\zEp G tb ts K (st.put t.o.dst u))->wpOp P ops Q k (wpOps P ops Q (List.range' (k+1) l.length)) a w:=by
   intro st r p h;obtain⟨β,s,kp,df⟩:=r.out;have y:(zu P ops o).op≠.bad:=λe=>by
    unfold zLD zB2 at h;rw[T,e]at h;simp only[zTu]at h;split at h
    .split at h
     .exact h
     .exact h
    split at h
    .exact h
    .exact h
   have c:Ctx P G nt Z0 B0 w0 dl E w a β st o t.o.op:=⟨s,kp,df,hG,hm,by rw[T];exact zFa y,i o (.head _),S t (.head _)⟩
   refine DRun.wpOp_of ho (zCn s.hf (by rw[←T];exact p) (.inr y)) (zXH J c (N t (.head _)) h _ _ λv B cv E' w' W r'=>?_)
   obtain⟨u,aa,W⟩:=W;exact ih _ W E' w' _ (by rw[x];exact r'.u6 aa) λz Y w2 a2 q1 q2 q3=>F z Y w2 a2 q1 q2 ((At.put (by rw[←x];exact D t (.head _))).trans q3)
  have skip:∀{st:Sta},Rs G nt Z0 B0 w0 dl E w a st->zB7 st.fr t.o.guard=some false->zEp G tb ts K (st.put t.o.dst (.qd []))->wpOp P ops Q k (wpOps P ops Q (List.range' (k+1) l.length)) a w:=by
   intro st r p h;obtain⟨β,s,kp,df⟩:=r.out;refine DRun.wpOp_not ho (zCn s.hf (by rw[←T];exact p) (.inl rfl)) ?_
   refine ih _ h E w _ ?_ λz Y w2 a2 q1 q2 q3=>F z Y w2 a2 q1 q2 ((At.put (by rw[←x];exact D t (.head _))).trans q3)
   rw[x];exact r.skip (i o (.head _))
  simp only[zEp]at h;split at h
  .rename_i M;exact q r (by rw[M];rfl) h
  .rename_i f b M;split at h
   .rename_i c hc;unfold brT at h;rcases zDz h with⟨rfl,h2⟩|⟨rfl,h2⟩
    .have h2:(match true==b with
      |true=>zLD G tb ⟨st.fr.put f (.bool true),st.H,st.V,st.m,st.mv⟩ t λv st=>∃u,WK v u/\zEp G tb ts K (st.put t.o.dst u)
      |false=>zEp G tb ts K (Sta.put ⟨st.fr.put f (.bool true),st.H,st.V,st.m,st.mv⟩ t.o.dst (.qd []))):=h2
     rw[qt hc]at h2;have p:=zIo (b:=b) hc;rw[←M]at p;cases b with
     |true=>exact q (st:=⟨st.fr,st.H,st.V,st.m,st.mv⟩) r p h2
     |false=>exact skip (st:=⟨st.fr,st.H,st.V,st.m,st.mv⟩) r p h2
    .have h2:(match false==b with
      |true=>zLD G tb ⟨st.fr.put f (.bool false),st.H,st.V,st.m,st.mv⟩ t λv st=>∃u,WK v u/\zEp G tb ts K (st.put t.o.dst u)
      |false=>zEp G tb ts K (Sta.put ⟨st.fr.put f (.bool false),st.H,st.V,st.m,st.mv⟩ t.o.dst (.qd []))):=h2
     rw[qt hc]at h2;have p:=zIo (b:=b) hc;rw[←M]at p;cases b with
     |true=>exact skip (st:=⟨st.fr,st.H,st.V,st.m,st.mv⟩) r p h2
     |false=>exact q (st:=⟨st.fr,st.H,st.V,st.m,st.mv⟩) r p h2
   .rename_i hc;exact skip r (by rw[M];simp only[zB7,hc]) h
   .exact h.elim
theorem zWj(z:TbW P G tb)(N:GPP G)(hm:zAZ P G)(j:P.follows .mixedOrders=true){pn:JV}{id:Nat}{ops:Array Oper}{ts:List TOp}{ds:List XD}{Q:Exit->Act->World->Prop}{K:Sta->Prop}(hc:zN P (.region id ops true)=some (.draw (ts.map TOp.o) ds))(l:zDZ nt (.draw (ts.map TOp.o) ds)=true)
  (I:∀t∈ts,zx t.o.op=true) (J:∀t∈ts,∀n,t.o.dst=some n->n ∉ pn) (F:∀t∈pn,zUs st.fr t=true) (f:zSp (ts.map TOp.o) ds=true) (h:zCo G tb ts K st) (r:Rs G nt Z0 B0 w0 dl E w a st) (W:∀v E' w' i,K v->Rs G nt Z0 B0 w0 dl E' w' i v->At pn a i->Q .normal i w'):(Code.region id ops true).wp P Q a w:=by
 obtain⟨β,s,U,T⟩:=r.out;unfold zSp at f;rw[QA]at f;have b:=zRn z N (V:=st.V) (mv:=st.mv) (K:=K) ts I s.wa s.cH (λp q=>s.qy p.1 (s.hr.qy p q)) h
 have b:=zcs (pn:=pn) _ (λo ho=>by
  obtain⟨t,A,e⟩:=QR.1 ho;exact e▸J t A) b
 have u:∀t h o,st.fr.get t=some (.ptr h o)->h<st.m:=λt h o B=>by
  obtain⟨_,s,_,_⟩:=r.out;have:=s.wa t _ B;cases this with
  |ptr _ _ X=>exact X
 obtain⟨fr',H',aa,e,D,d⟩:=zYZ zXF u f.1 f.2 b;obtain⟨ab,Y⟩:=zXx (zaB z N) hm j hc l e;refine Y E w a Q dl s.hr s.hf s.hg (λh h1 h2 f=>by have:=s.qy h f;omega) T λE' w' i R O M k4=>?_
 have:=s.steps R O M D.cf D.cH;refine W _ E' w' i D.k ⟨β,this.1,U.trans this.2,k4⟩ λt A=>?_
 have q:=F t A;unfold zUs at q;split at q
 .rename_i h off B;have h1:=s.hf.get t _ B;have h2:=M.get t _ ((d t A).trans B);generalize a.tmps.getD t undef=x at h1;generalize i.tmps.getD t undef=y at h2;cases h1 with
  |ptr _ _ hd=>
   cases h2 with
   |ptr _ _ S=>rw[O.agree h hd]
 .cases q
theorem zQ4(M:TbW P G tb)(T:GPP G)(hm:zAZ P G){pn:JV}{ops:Array Oper}{i:Nat}{o:Oper}{t:TOp}(ho:ops[i]?=some o)(x:t.o=zu P ops o)(hd:∀d,o.dst=some d->d<nt)(J:zx t.o.op=true)(B:∀es,t.h=some es->∀e∈es,HOK P G e)(z:∀n,t.o.dst=some n->n ∉ pn)
  {k:Sta->Prop} (h:zD1 G tb st t k) (r:Rs G nt Z0 B0 w0 dl E w a st) {K:Act->World->Prop} {Q:Exit->Act->World->Prop} (R:∀u E' w' F,k u->Rs G nt Z0 B0 w0 dl E' w' F u->At pn a F->K F w'):wpOp P ops Q i K a w:=by
 have p:t.o.dst=o.dst:=by rw[x];exact zBJ
 have j:∀{st:Sta},Rs G nt Z0 B0 w0 dl E w a st->zB7 st.fr t.o.guard=some true->zB2 G tb st t (λv st=>∃l,WK v l/\k (st.put t.o.dst l))->wpOp P ops Q i K a w:=by
  intro st r f h;obtain⟨β,s,O,N⟩:=r.out;have q:(zu P ops o).op≠.bad:=λe=>by
   unfold zB2 at h;split at h
   .rw[x,e]at h;exact h
   .rw[x,e]at h;exact h
  have c:Ctx P G nt Z0 B0 w0 dl E w a β st o t.o.op:=⟨s,O,N,T,hm,by rw[x];exact zFa q,hd,J⟩
  refine DRun.wpOp_of ho (zCn s.hf (by rw[←x];exact f) (.inr q)) (zNE M c B h _ _ λv u U E' w' D S=>?_)
  obtain⟨l,I,D⟩:=D;exact R _ E' w' _ D (by rw[p];exact S.u6 I) (At.put (by rw[←p];exact z))
 have skip:∀{st:Sta},Rs G nt Z0 B0 w0 dl E w a st->zB7 st.fr t.o.guard=some false->k (st.put t.o.dst (.qd []))->wpOp P ops Q i K a w:=by
  intro st r f h;obtain⟨β,s,O,N⟩:=r.out;refine DRun.wpOp_not ho (zCn s.hf (by rw[←x];exact f) (.inl rfl)) ?_
  refine R _ E w _ h ?_ (At.put (by rw[←p];exact z))
  rw[p];exact r.skip hd
 simp only[zD1]at h;split at h
 .rename_i y;exact j r (by rw[y];rfl) h
 .rename_i A b y;split at h
  .rename_i c hc;unfold brT at h;rcases zDz h with⟨rfl,h2⟩|⟨rfl,h2⟩
   .have h2:(match true==b with
     |true=>zB2 G tb ⟨st.fr.put A (.bool true),st.H,st.V,st.m,st.mv⟩ t λv st=>∃l,WK v l/\k (st.put t.o.dst l)
     |false=>k (Sta.put ⟨st.fr.put A (.bool true),st.H,st.V,st.m,st.mv⟩ t.o.dst (.qd []))):=h2
    rw[qt hc]at h2;have f:=zIo (b:=b) hc;rw[←y]at f;cases b with
    |true=>exact j (st:=⟨st.fr,st.H,st.V,st.m,st.mv⟩) r f h2
    |false=>exact skip (st:=⟨st.fr,st.H,st.V,st.m,st.mv⟩) r f h2
   .have h2:(match false==b with
     |true=>zB2 G tb ⟨st.fr.put A (.bool false),st.H,st.V,st.m,st.mv⟩ t λv st=>∃l,WK v l/\k (st.put t.o.dst l)
     |false=>k (Sta.put ⟨st.fr.put A (.bool false),st.H,st.V,st.m,st.mv⟩ t.o.dst (.qd []))):=h2
    rw[qt hc]at h2;have f:=zIo (b:=b) hc;rw[←y]at f;cases b with
    |true=>exact skip (st:=⟨st.fr,st.H,st.V,st.m,st.mv⟩) r f h2
    |false=>exact j (st:=⟨st.fr,st.H,st.V,st.m,st.mv⟩) r f h2
  .rename_i hc;exact skip r (by rw[y];simp only[zB7,hc]) h
  .exact h.elim
theorem zWK{ops:Array Oper}{ds:List XD}(U:ds.length=ops.size)(ha:DRun.Ahead ops ds)(N:DRun.Down ops){Q:Exit->Act->World->Prop}(I:Nat->(Nat->Bool)->Act->World->Prop)(X:∀L a w,(∀j,j<ops.size->L j=true)->I 0 L a w->Q .normal a w)
  (hs:∀n L a w i o d,I (n+1) L a w->ops[i]?=some o->ds[i]?=some d->L i=false->(∀j,d.qg.testBit j=true->L j=true)->wpOp P ops Q i (λM w'=>I n (λj=>L j||j==i) M w') a w):
  ∀(fuel:Nat)(listed:Array Bool)(a:Act)(w:World),listed.size=ops.size->listed.toList.count false=fuel →
   (∀(k:Nat)(B:XD),listed.getD k false=true->ds[k]?=some B->∀j,B.qg.testBit j=true->listed.getD j false=true) →
   I fuel (λj=>listed.getD j false) a w->wpAny P .any ops Q fuel listed a w:=by
 have done:∀(listed:Array Bool),listed.size=ops.size->Region.ready .any ops listed=[]->∀j,j<ops.size->listed.getD j false=true:=by
  intro listed b D j
  induction j using Nat.strongRecOn with
  |_ j O=>
   intro l;cases hl:listed.getD j false with
   |true=>rfl
   |false=>
    have p:j<listed.size:=b▸l
    have:j∈Region.ready .any ops listed:=by
     rw[mem_ready];refine⟨?_,ops[j],Qf l,λe K hb=>?_⟩
     .simpa[p]using hl
     .have:=N j _ (Qf l) e K hb;exact O e.on this (by omega)
    rw[D]at this;cases this
 intro fuel
 induction fuel with
 |zero=>
  intro listed a w b hc z v;refine⟨?_,X _ a w (λj l=>by
   have p:j<listed.size:=b▸l
   cases hl:listed.getD j false with
   |true=>rfl
   |false=>
    have h2:listed[j]=false:=by simpa[p]using hl
    have:false∈listed.toList:=by rw[←h2];simp
    have:=List.count_pos_iff.2 this;omega) v⟩
  cases D:Region.ready .any ops listed with
  |nil=>rfl
  |cons x r=>
   have hx:x∈Region.ready .any ops listed:=by rw[D];exact .head _
   obtain⟨h1,o,A,_⟩:=mem_ready.1 hx;have u:=(Array.getElem?_eq_some_iff.1 A).1;have p:x<listed.size:=b▸u
   have h2:listed[x]=false:=by simpa[p]using h1
   have:false∈listed.toList:=by rw[←h2];simp
   have:=List.count_pos_iff.2 this;omega
 |succ fuel O=>
  intro listed a w b hc z v;refine⟨λD=>?_,λi hi=>?_⟩
  .have W:=done listed b D;have:false∈listed.toList:=List.count_pos_iff.1 (by omega)
   obtain⟨j,l,e⟩:=List.getElem_of_mem this;have R:j<ops.size:=by rw[←b];simpa using l
   have h3:=W j R;have p:j<listed.size:=by simpa using l
   have e:listed[j]=false:=by simpa using e
   simp[p,e]at h3
  .obtain⟨h1,o,A,h2⟩:=mem_ready.1 hi;have u:=(Array.getElem?_eq_some_iff.1 A).1;have f:i<listed.size:=b▸u
   have T:listed.getD i false=false:=by simpa[f]using h1
   have F:∀j,(listed.setIfInBounds i true).getD j false=(listed.getD j false||j==i):=by
    intro j;by_cases l:i=j
    .subst l;simp[f]
    .have:(j==i)=false:=by simp;exact λh=>l h.symm
     simp only[Array.getD_eq_getD_getElem?,Array.getElem?_setIfInBounds,if_neg l,this,Bool.or_false]
   have q:∀(d:XD),ds[i]?=some d->∀j,d.qg.testBit j=true->listed.getD j false=true:=by
    intro d hd j l;obtain⟨e,K,hb,h|⟨Y,h3,h4⟩⟩:=ha i o d A hd j l
    .rw[h];exact h2 e K hb
    .exact z e.on Y (h2 e K hb) h3 j h4
   obtain⟨d,hd⟩:∃d,ds[i]?=some d:=⟨ds[i],QD (by omega)⟩
   have:=hs fuel _ a w i o d v A hd T (q d hd);refine wpOp_mono (λM w' h=>?_) this
   refine O _ M w' (by simpa using b) ?_ ?_ ?_
   .have h4:(listed.setIfInBounds i true).toList=listed.toList.set i true:=by simp
    rw[h4,List.count_set (by simpa using f)]
    have S:listed.toList[i]'(by simpa using f)=false:=by simpa[f]using T
    have h6:0<listed.toList.count false:=List.count_pos_iff.2 (by rw[←S];exact Qg _)
    simp only[S];simp;simp at h6 hc;omega
   .intro k B y J j l;rw[F]at y⊢;rw[Bool.or_eq_true,beq_iff_eq]at y;rcases y with y|y
    .rw[z k B y J j l];rfl
    .subst y;rw[q B J j l];rfl
   .have e:(λj=>(listed.setIfInBounds i true).getD j false)=λj=>listed.getD j false||j==i:=funext F
    rw[e];exact h
theorem zVh{ops:Array Oper}(y:zQd 0 ops.toList=true):(zDt ops P ops.toList (Region.before ops).toList).length=ops.size/\DRun.Ahead ops (zDt ops P ops.toList (Region.before ops).toList)/\DRun.Down ops:=by
 obtain⟨u,F⟩:=zQZ (ops:=ops);have p:∀{j:Nat}{d:XD},(zDt ops P ops.toList (Region.before ops).toList)[j]?=some d->(Region.before ops)[j]?=some d.qg:=λh=>by
  obtain⟨m,a,b⟩:=zPa h;rw[b];simpa using a
 have f:∀(l:List Oper)(i:JV),l.length=i.length->(zDt ops P l i).length=l.length:=by
  intro l
  induction l with
  |nil=>intro i _;simp[zDt]
  |cons o l J=>intro i n;cases i with
   |nil=>simp at n
   |cons m i=>simp[zDt,J i (by simpa using n)]
 refine⟨by rw[f _ _ (by simp[u])];simp,?_,λj o v e q hb=>?_⟩
 .intro j o d v hd k B;obtain⟨m,D,c2⟩:=F j o v;have:=p hd;rw[D]at this;cases this;obtain⟨e,q,hb,h|⟨I,h3,h4⟩⟩:=c2 k B
  .exact⟨e,q,hb,.inl h⟩
  .refine⟨e,q,hb,.inr ?_⟩
   have A:e.on<(zDt ops P ops.toList (Region.before ops).toList).length:=by
    rw[f _ _ (by simp[u])]
    have:=(Array.getElem?_eq_some_iff.1 h3).1
    simpa[u]using this
   refine⟨_,QD A,?_⟩
   have z:=p (QD A);have x:(Region.before ops)[e.on]?=some I:=h3;rw[x]at z;rw[←Qt z];exact h4
 .have:=zNv y j o (by simpa using v) e q hb
  omega
theorem zTS{F:Nat->TOp->Prop}{listed:Nat}:∀{ts:List TOp}{ds:List XD}{i0:Nat},zQj F listed i0 ts ds->∀(i:Nat) t d,ts[i]?=some t->ds[i]?=some d->listed.testBit (i0+i)=false->d.qg &&& listed=d.qg->F (i0+i) t
 |[],ds,i0,h,i,t,d,b,_,_,_=>by simp at b
 |t0::ts,[],i0,h,i,t,d,_,hd,_,_=>by simp at hd
 |t0::ts,d0::ds,i0,h,i,t,d,b,hd,j,k=>by
  simp only[zQj]at h;cases i with
  |zero=>
   simp only[List.getElem?_cons_zero,QK]at b hd;subst b;subst hd;have:(!listed.testBit i0&&Nat.beq (d0.qg &&& listed) d0.qg)=true:=by
    rw[k];simp only[Nat.add_zero]at j;rw[j,Nat.beq_refl];rfl
   rw[this]at h;exact h.1
  |succ i=>
   have f:zQj F listed (i0+1) ts ds:=by
    split at h
    .exact h.2
    .exact h
   have:=zTS f i t d (by simpa using b) (by simpa using hd) (by rw[←j];congr 1;omega) k
   have e:i0+(i+1)=i0+1+i:=by omega
   rw[e];exact this
theorem zVi(Y:TbW P G tb)(hG:GPP G)(hm:zAZ P G)(M:P.follows .mixedOrders=true){pn:JV}{id:Nat}{ops:Array Oper}{ts:List TOp}{ds:List XD}{Q:Exit->Act->World->Prop}{K:Sta->Prop}(hc:zN P (.region id ops true)=some (.draw (ts.map TOp.o) ds))(F:zDZ nt (.draw (ts.map TOp.o) ds)=true)
  (X:∀t∈ts,zx t.o.op=true) (ae:∀t∈ts,∀es,t.h=some es->∀e∈es,HOK P G e) (af:∀t∈ts,∀n,t.o.dst=some n->n ∉ pn) (h:zUr G tb ts ds K ts.length 0 st) (r:Rs G nt Z0 B0 w0 dl E w a st) (hQ:∀p E' w' x,K p->Rs G nt Z0 B0 w0 dl E' w' x p->At pn a x->Q .normal x w'):(Code.region id ops true).wp P Q a w:=by
 simp only[zN]at hc;split at hc
 rotate_left
 .cases hc
 rename_i W;split at hc
 rotate_left
 .cases hc
 simp only[QK,XC.draw.injEq]at hc;obtain⟨e1,e2⟩:=hc;obtain⟨hl,R,b⟩:=zVh (P:=P) W;rw[e2]at hl R;have I:ts.length=ops.size:=by
  have:=congrArg List.length e1
  simpa using this.symm
 have T:∀(i:Nat) o,ops[i]?=some o->∃t,ts[i]?=some t/\t.o=zu P ops o:=λi o A=>by
  have h1:(ops.toList.map (zu P ops))[i]?=some (zu P ops o):=by simp[A]
  rw[e1,Qb]at h1;cases z:ts[i]? with
  |none=>rw[z]at h1;cases h1
  |some t=>rw[z]at h1;exact⟨t,rfl,by simpa using h1⟩
 refine wp_region_any M ?_
 have r':Rs G nt Z0 B0 w0 dl E { w with drawn:=w.drawn+1 } a st:=by
  obtain⟨β,s,kp,df⟩:=r.out;obtain⟨d1,d2⟩:=zHT (w':={ w with drawn:=w.drawn+1 }) s.hr ⟨rfl,rfl,rfl,rfl⟩ st.m
  have:=s.steps d1 d2 ⟨s.hf.size,λt u z=>d2.vr s.hr (s.hf.get t u z)⟩ s.wa s.cH
  exact⟨β,this.1,kp.trans this.2,df⟩
 refine zWK hl R b (λn L x w'=>∃listed st E,(∀j,j<ops.size->L j=listed.testBit j)/\(∀j,ops.size<=j->listed.testBit j=false)/\zUr G tb ts ds K n listed st/\Rs G nt Z0 B0 w0 dl E w' x st/\At pn a x) (λL x w' _ ⟨listed,p,E',_,_,y,hr,D⟩=>hQ p E' w' x y hr D) ?_ ops.size _ a _ (by simp) (by simp) ?_ ⟨0,st,E,λj v=>by simp[v],λj _=>by simp,I▸h,r',.refl⟩
 .rintro n L x w' i o d ⟨listed,p,E',hL,hhi,y,hr,D⟩ A hd hLi hpre
  have hi:=(Array.getElem?_eq_some_iff.1 A).1;obtain⟨t,z,et⟩:=T i o A;have l:=QF z;have ad:listed.testBit i=false:=(hL i hi).symm.trans hLi;have hp:d.qg &&& listed=d.qg:=by
   apply Nat.eq_of_testBit_eq;intro j;rw[Nat.testBit_and];cases v:d.qg.testBit j with
   |false=>rfl
   |true=>
    have h1:=hpre j v;have U:j<ops.size:=by
     obtain⟨e,O,hb,h2|⟨d',h3,h4⟩⟩:=R i o d A hd j v
     .have:=b i o A e O hb;omega
     .have low:∀(i:Nat)(d:XD)(k:Nat),ds[i]?=some d->d.qg.testBit k=true->k<i:=by
       intro i
       induction i using Nat.strongRecOn with
       |_ i ih=>
        intro d k hd y;have hi:i<ops.size:=by have:=(QC.1 hd).1;omega
        obtain⟨e,O,hb,h|⟨d',h3,h4⟩⟩:=R i _ d (Qf hi) hd k y
        .rw[h];exact b i _ (Qf hi) e O hb
        .have h5:=b i _ (Qf hi) e O hb;have:=ih e.on h5 d' k h3 h4;omega
      have:=low i d j hd v;omega
    rw[←hL j U,h1];rfl
  have q:=zTS (i0:=0) y i t d z hd (by rw[Qa];exact ad) hp
  rw[Qa]at q;refine zQ4 Y hG hm A et (λdd ab=>?_) (X t l) (ae t l) (af t l) q hr λac E2 w2 a2 aa S J=>⟨listed ||| 2 ^ i,ac,E2,λj v=>?_,λj v=>?_,aa,S,D.trans J⟩
  .have h1:=QH.1 F _ (List.mem_map_of_mem (f:=TOp.o) l);rw[et,zBJ,ab]at h1
   simpa[Qi]using h1
  .rw[Nat.testBit_or,←hL j v,Nat.testBit_two_pow];congr 1;by_cases B:i=j
   .subst B;simp
   .have:¬j=i:=λh=>B h.symm
    simp[B,this]
  .rw[Nat.testBit_or,hhi j v,Nat.testBit_two_pow];have:¬i=j:=by omega
   simp[this]
 .intro k dk y;by_cases N:k<ops.size
  .simp[N]at y
  .simp[N]at y
end
theorem zQ5:∀{ts:List TOp}{ds:List XD},zIq ts ds=true->∀(i:Nat) t d,ts[i]?=some t->ds[i]?=some d->(∀x∈zKi t.o.op.qb,x∈d.looks)/\∀g b,t.o.guard=some (g,b)->g∈d.looks
 |[],ds,h,i,t,d,f,hd=>by simp at f
 |o::r,[],h,i,t,d,f,hd=>by simp at hd
 |o::r,d0::ds,h,i,t,d,f,hd=>by
  simp only[zIq,QA]at h;have mem:∀{n:Nat}{l:JV},inN n l=true->n∈l:=by
   intro n l
   induction l with
   |nil=>intro h;cases h
   |cons a r p=>
    intro h;simp only[inN]at h;split at h
    .rename_i e;rw[zb e];exact .head _
    .exact .tail _ (p h)
  cases i with
  |zero=>
   simp at f hd;subst f;subst hd;refine⟨λx k=>mem (QH.1 h.1.1 x k),λg b j=>?_⟩
   have:=h.1.2;rw[j]at this;exact mem this
  |succ i=>exact zQ5 h.2 i t d (by simpa using f) (by simpa using hd)
structure SeqQ(ts:List TOp)(ds:List XD)(i0:Nat)(bars hard rds:JV):Prop where
 b:∀(i:Nat) t d,ts[i]?=some t->ds[i]?=some d->2<=clsQ t->(∀c∈bars,d.qg.testBit c=true)/\∀(j:Nat) t',j<i->ts[j]?=some t'->2<=clsQ t'->d.qg.testBit (i0+j)=true
 h:∀(i:Nat) t d,ts[i]?=some t->ds[i]?=some d->clsQ t=1->(∀c∈hard,d.qg.testBit c=true)/\∀(j:Nat) t',j<i->ts[j]?=some t'->3<=clsQ t'->d.qg.testBit (i0+j)=true
 r:∀(i:Nat) t d,ts[i]?=some t->ds[i]?=some d->3<=clsQ t->(∀c∈rds,d.qg.testBit c=true)/\∀(j:Nat) t',j<i->ts[j]?=some t'->clsQ t'=1->d.qg.testBit (i0+j)=true
theorem zJB:∀{ts:List TOp}{ds:List XD}{i0:Nat}{u v z:JV},zJW i0 u v z ts ds=true->SeqQ ts ds i0 u v z
 |[],ds,i0,u,v,z,h=>⟨λi t d l=>by simp at l,λi t d l=>by simp at l,λi t d l=>by simp at l⟩
 |t0::r,[],i0,u,v,z,h=>by cases h
 |t0::r,d0::ds,i0,u,v,z,h=>by
  have y:∀j,i0+(j+1)=i0+1+j:=λj=>by omega
  simp only[zJW]at h;split at h
  .rename_i hc;have q:=zJB h;refine⟨λi t d l hd k=>?_,λi t d l hd k=>?_,λi t d l hd k=>?_⟩
   .cases i with
    |zero=>simp at l;subst l;rw[hc]at k;omega
    |succ i=>
     obtain⟨q1,p⟩:=q.b i t d (by simpa using l) (by simpa using hd) k
     refine⟨q1,λj o x f e=>?_⟩
     cases j with
     |zero=>simp at f;subst f;rw[hc]at e;omega
     |succ j=>rw[y];exact p j o (by omega) (by simpa using f) e
   .cases i with
    |zero=>simp at l;subst l;rw[hc]at k;omega
    |succ i=>
     obtain⟨q1,p⟩:=q.h i t d (by simpa using l) (by simpa using hd) k
     refine⟨q1,λj o x f e=>?_⟩
     cases j with
     |zero=>simp at f;subst f;rw[hc]at e;omega
     |succ j=>rw[y];exact p j o (by omega) (by simpa using f) e
   .cases i with
    |zero=>simp at l;subst l;rw[hc]at k;omega
    |succ i=>
     obtain⟨q1,p⟩:=q.r i t d (by simpa using l) (by simpa using hd) k
     refine⟨q1,λj o x f e=>?_⟩
     cases j with
     |zero=>simp at f;subst f;rw[hc]at e;omega
     |succ j=>rw[y];exact p j o (by omega) (by simpa using f) e
  .rename_i hc;rw[QA]at h;have q:=zJB h.2;refine⟨λi t d l hd k=>?_,λi t d l hd k=>?_,λi t d l hd k=>?_⟩
   .cases i with
    |zero=>simp at l;subst l;rw[hc]at k;omega
    |succ i=>
     obtain⟨q1,p⟩:=q.b i t d (by simpa using l) (by simpa using hd) k
     refine⟨q1,λj o x f e=>?_⟩
     cases j with
     |zero=>simp at f;subst f;rw[hc]at e;omega
     |succ j=>rw[y];exact p j o (by omega) (by simpa using f) e
   .cases i with
    |zero=>
     simp at l hd;subst l;subst hd;exact⟨λc n=>QH.1 h.1 c n,λj o x=>by omega⟩
    |succ i=>
     obtain⟨q1,p⟩:=q.h i t d (by simpa using l) (by simpa using hd) k
     refine⟨q1,λj o x f e=>?_⟩
     cases j with
     |zero=>simp at f;subst f;rw[hc]at e;omega
     |succ j=>rw[y];exact p j o (by omega) (by simpa using f) e
   .cases i with
    |zero=>simp at l;subst l;rw[hc]at k;omega
    |succ i=>
     obtain⟨q1,p⟩:=q.r i t d (by simpa using l) (by simpa using hd) k
     refine⟨λc n=>q1 c (.tail _ n),λj o x f e=>?_⟩
     cases j with
     |zero=>exact q1 i0 (.head _)
     |succ j=>rw[y];exact p j o (by omega) (by simpa using f) e
  .rename_i hc;rw[QA]at h;have q:=zJB h.2;refine⟨λi t d l hd k=>?_,λi t d l hd k=>?_,λi t d l hd k=>?_⟩
   .cases i with
    |zero=>
     simp at l hd;subst l;subst hd;exact⟨λc n=>QH.1 h.1 c n,λj o x=>by omega⟩
    |succ i=>
     obtain⟨q1,p⟩:=q.b i t d (by simpa using l) (by simpa using hd) k
     refine⟨λc n=>q1 c (.tail _ n),λj o x f e=>?_⟩
     cases j with
     |zero=>exact q1 i0 (.head _)
     |succ j=>rw[y];exact p j o (by omega) (by simpa using f) e
   .cases i with
    |zero=>simp at l;subst l;rw[hc]at k;omega
    |succ i=>
     obtain⟨q1,p⟩:=q.h i t d (by simpa using l) (by simpa using hd) k
     refine⟨q1,λj o x f e=>?_⟩
     cases j with
     |zero=>simp at f;subst f;rw[hc]at e;omega
     |succ j=>rw[y];exact p j o (by omega) (by simpa using f) e
   .cases i with
    |zero=>simp at l;subst l;rw[hc]at k;omega
    |succ i=>
     obtain⟨q1,p⟩:=q.r i t d (by simpa using l) (by simpa using hd) k
     refine⟨q1,λj o x f e=>?_⟩
     cases j with
     |zero=>simp at f;subst f;rw[hc]at e;omega
     |succ j=>rw[y];exact p j o (by omega) (by simpa using f) e
  .rename_i vM A B;simp only[QA]at h;have q:=zJB h.2;refine⟨λi t d l hd k=>?_,λi t d l hd k=>?_,λi t d l hd k=>?_⟩
   .cases i with
    |zero=>
     simp at l hd;subst l;subst hd;exact⟨λc n=>QH.1 h.1.1 c n,λj o x=>by omega⟩
    |succ i=>
     obtain⟨q1,p⟩:=q.b i t d (by simpa using l) (by simpa using hd) k
     refine⟨λc n=>q1 c (.tail _ n),λj o x f e=>?_⟩
     cases j with
     |zero=>exact q1 i0 (.head _)
     |succ j=>rw[y];exact p j o (by omega) (by simpa using f) e
   .cases i with
    |zero=>simp at l;subst l;exact absurd k A
    |succ i=>
     obtain⟨q1,p⟩:=q.h i t d (by simpa using l) (by simpa using hd) k
     refine⟨λc n=>q1 c (.tail _ n),λj o x f e=>?_⟩
     cases j with
     |zero=>exact q1 i0 (.head _)
     |succ j=>rw[y];exact p j o (by omega) (by simpa using f) e
   .cases i with
    |zero=>
     simp at l hd;subst l;subst hd;exact⟨λc n=>QH.1 h.1.2 c n,λj o x=>by omega⟩
    |succ i=>
     obtain⟨q1,p⟩:=q.r i t d (by simpa using l) (by simpa using hd) k
     refine⟨q1,λj o x f e=>?_⟩
     cases j with
     |zero=>simp at f;subst f;exact absurd e A
     |succ j=>rw[y];exact p j o (by omega) (by simpa using f) e
structure SameQ(fr fr':Fr)(s0 s:Sta):Prop where
 H:s.H=s0.H
 V:s.V=s0.V
 m:s.m=s0.m
 mv:s.mv=s0.mv
 f0:∀t,s0.fr.get t=fr.get t
 f:∀t,s.fr.get t=fr'.get t
section
variable{G:Cx}{tb:TblS}{fr fr':Fr}{H H2:Heap}{V V2:Vecs}{m m2 mv mv2:Nat}{C C':AV->Sta->Prop}
theorem zel{o o':XO}(e:xoS G zf fr H m o=xoS G zf fr' H m o')(d:∀v b s,C v b->SameQ fr fr' b s->C' v s)(h:WXd ⟨fr,H,V,m,mv⟩ (xoS G zf fr H m o) C):WXd ⟨fr',H,V,m,mv⟩ (xoS G zf fr' H m o') C':=by
 rw[←e];unfold WXd at h⊢;split at h
 .exact d _ _ _ h ⟨rfl,rfl,rfl,rfl,λ_=>rfl,λ_=>rfl⟩
 .exact h.elim
theorem zJr{n:Int}{lo hi:JF}{k d:Int->Int->Prop}(h:zJy n lo hi k)(b:∀l u,k l u->d l u):zJy n lo hi d:=by
 cases lo with
 |none=>
  cases hi with
  |none=>exact b _ _ h
  |some u=>cases u<;>first|exact⟨h.1,b _ _ h.2⟩|exact h.elim
 |some l=>
  cases l with
  |int e l=>
   cases hi with
   |none=>exact⟨h.1,b _ _ h.2⟩
   |some u=>cases u<;>first|exact⟨h.1,b _ _ h.2⟩|exact h.elim
  |_=>exact h.elim
theorem zDV{n:Int}:∀{l:Nat}{k b:Nat->Prop},zIp n l k->(∀m,k m->b m)->zIp n l b
 |0,k,b,h,d=>trivial
 |l+1,k,b,h,d=>⟨zDV h.1 d,λe=>d _ (h.2 e)⟩
theorem zIs{f:Nat}{args:JE}{k d:AV->Prop}:∀{tb:TblS},zGg tb f args k->(∀v,k v->d v)->zGg tb f args d
 |[],h,_=>h.elim
 |s::r,h,b=>by
  simp only[zGg]at h⊢;cases e:Nat.beq f s.1 with
  |true=>
   rw[e]at h;refine⟨h.1,?_⟩
   have:=h.2;cases hv:s.2.2 args with
   |some v=>rw[hv]at this;exact b _ this
   |none=>rw[hv]at this;exact this.elim
  |false=>
   rw[e]at h;exact zIs h b
theorem zVj{f:Nat}{vs:JE}(d:∀v b s,C v b->SameQ fr fr' b s->C' v s)(h:zCY tb f vs ⟨fr,H,V,m,mv⟩ C):zCY tb f vs ⟨fr',H,V,m,mv⟩ C':=by
 have mk:∀{v:AV},C v ⟨fr,H,V,m,mv⟩->C' v ⟨fr',H,V,m,mv⟩:=λh=>d _ _ _ h ⟨rfl,rfl,rfl,rfl,λ_=>rfl,λ_=>rfl⟩
 unfold zCY at h⊢;cases hh:vs.any (zCC 8)with
 |false=>rw[hh]at h;exact zIs h λv h=>mk h
 |true=>
  rw[hh]at h;simp only at h⊢;cases hm:zC (frz H V 8) vs with
  |none=>rw[hm]at h;exact h.elim
  |some args=>
   rw[hm]at h;refine zIs h λv h=>?_
   cases hs:zBT 8 v with
   |true=>rw[hs]at h;exact mk h
   |false=>rw[hs]at h;exact h.elim
theorem zem{o:XO}{q:List K}(d:∀x∈o.qb,x.ev G fr=x.ev G fr')(A:∀v Q s,C v Q->SameQ fr fr' Q s->C' v s)(h:wop G tb ⟨fr,H,V,m,mv⟩ o q C):wop G tb ⟨fr',H,V,m,mv⟩ o q C':=by
 have mk:∀{v:AV}{T:Heap}{S:Vecs}{I D:Nat},C v ⟨fr,T,S,I,D⟩->C' v ⟨fr',T,S,I,D⟩:=λh=>A _ _ _ h ⟨rfl,rfl,rfl,rfl,λ_=>rfl,λ_=>rfl⟩
 have e:∀{o':XO},(∀x∈o'.qb,x.ev G fr=x.ev G fr')->WXd ⟨fr,H,V,m,mv⟩ (xoS G zf fr H m o') C->WXd ⟨fr',H,V,m,mv⟩ (xoS G zf fr' H m o') C':=λd h=>zel (by rw[←zIj,←zIj];exact zUZ d) A h
 cases o<;>try (exact h.elim)
 all_goals try (exact e d h)
 case wg x i l sz ag=>
  cases q with
  |nil=>exact e d h
  |cons N q=>
   simp only[wop]at h⊢;rw[←d i (by simp[XO.qb])]
   split at h
   .exact⟨h.1,zDV h.2 λI J=>e (λy j=>by
     simp only[XO.qb,QI,QU]at j;rcases j with rfl|rfl
     .exact d _ (by simp[XO.qb])
     .rfl) J⟩
   .exact h.elim
 case qz x i l sz=>
  cases q with
  |nil=>exact e d h
  |cons N q=>
   simp only[wop]at h⊢;rw[←d i (by simp[XO.qb])]
   split at h
   .exact⟨h.1,zDV h.2 λI J=>e (λy j=>by
     simp only[XO.qb,QI,QU]at j;rcases j with rfl|rfl
     .exact d _ (by simp[XO.qb])
     .rfl) J⟩
   .exact h.elim
 case pick c a b=>
  have k:=d c (by simp[XO.qb])
  have p:=d a (by simp[XO.qb])
  have W:=d b (by simp[XO.qb])
  simp only[wop]at h⊢;rw[←k];split at h
  .rename_i R B;split at h
   .rename_i n;have O:fr.get n=some (.bool R):=B;have F:fr'.get n=some (.bool R):=k.symm.trans B;rcases zDz h with⟨rfl,h⟩|⟨rfl,h⟩
    .simp only[Br,←p];cases hv:a.ev G fr with
     |some v=>
      rw[hv]at h;exact A _ _ _ h ⟨rfl,rfl,rfl,rfl,λt=>by simp only[qt O],λt=>by simp only[qt F]⟩
     |none=>rw[hv]at h;exact h.elim
    .simp only[Br,←W];cases hv:b.ev G fr with
     |some v=>
      rw[hv]at h;exact A _ _ _ h ⟨rfl,rfl,rfl,rfl,λt=>by simp only[qt O],λt=>by simp only[qt F]⟩
     |none=>rw[hv]at h;exact h.elim
   .rename_i M;cases c with
    |t n=>exact absurd rfl (M n)
    |_=>exact e d h
  .exact h.elim
 case bin op x y=>
  have k:=d x (by simp[XO.qb])
  have p:=d y (by simp[XO.qb])
  have hd:=λh=>e (o':=.bin op x y) d h
  simp only[wop]at h⊢;rw[←k,←p];split at h
  .rename_i s1 U;cases op with
   |add=>
    simp only at h⊢;split at h
    .exact⟨h.1,mk h.2⟩
    .exact h.elim
   |_=>exact hd h
  .rename_i X Y U;cases op with
   |quo=>
    simp only at h⊢;split at h
    .split at h
     .exact⟨h.1,mk h.2⟩
     .exact h.elim
    .exact h.elim
   |rem=>
    simp only at h⊢;split at h
    .split at h
     .exact⟨h.1,mk h.2⟩
     .exact h.elim
    .exact h.elim
   |shl=>
    simp only at h⊢;split at h
    .exact⟨h.1,mk h.2⟩
    .exact h.elim
   |shr=>
    simp only at h⊢;split at h
    .exact⟨h.1,mk h.2⟩
    .exact h.elim
   |_=>exact hd h
  .exact h.elim
 case wG neg kd x y=>
  simp only[wop]at h⊢;rw[←d x (by simp[XO.qb]),←d y (by simp[XO.qb])]
  split at h
  .split at h
   .split at h
    .exact mk h
    .exact h.elim
   .exact h.elim
  .exact h.elim
 case wW x i=>
  simp only[wop]at h⊢;rw[←d x (by simp[XO.qb]),←d i (by simp[XO.qb])]
  split at h
  .split at h
   .obtain⟨c,h1,h2⟩:=h;exact⟨c,h1,mk h2⟩
   .exact h.elim
  .exact h.elim
 case wP x lo hi=>
  have k:evo G fr lo=evo G fr' lo:=zCu λy j=>d y (by simp[XO.qb,j])
  have p:evo G fr hi=evo G fr' hi:=zCu λy j=>d y (by simp[XO.qb,j])
  simp only[wop]at h⊢;rw[←d x (by simp[XO.qb]),←k,←p]
  split at h
  .split at h
   .split at h
    .exact zJr h λl u h=>mk h
    .exact h.elim
   .exact h.elim
  .exact h.elim
 case wA x lo hi mx sz=>
  have k:evo G fr lo=evo G fr' lo:=zCu λy j=>d y (by simp[XO.qb,j])
  have p:evo G fr hi=evo G fr' hi:=zCu λy j=>d y (by simp[XO.qb,j])
  have hd:=λh=>e (o':=.wA x lo hi mx sz) d h
  simp only[wop]at h⊢;rw[←d x (by simp[XO.qb]),←k,←p]
  split at h
  .split at h
   .split at h
    .split at h
     .split at h
      .exact zJr h λl u h=>mk h
      .exact h.elim
     .exact h.elim
    .exact h.elim
   .exact h.elim
  .exact hd h
  .exact h.elim
 case qB x i sz=>
  simp only[wop]at h⊢;rw[←d x (by simp[XO.qb]),←d i (by simp[XO.qb])]
  split at h
  .split at h
   .split at h
    .obtain⟨v,h1,h2⟩:=h;exact⟨v,h1,mk h2⟩
    .exact h.elim
   .exact h.elim
  .split at h
   .split at h
    .split at h
     .exact⟨h.1,mk h.2⟩
     .exact h.elim
    .exact h.elim
   .exact h.elim
  .split at h
   .exact⟨h.1,zDV h.2 λI J=>e (λy j=>by
     simp only[XO.qb,QI,QU]at j;rcases j with rfl|rfl
     .exact d _ (by simp[XO.qb])
     .rfl) J⟩
   .exact h.elim
  .exact h.elim
 case wq x=>
  have hd:=λh=>e (o':=.wq x) d h
  simp only[wop]at h⊢;rw[←d x (by simp[XO.qb])]
  split at h
  .split at h
   .exact mk h
   .exact h.elim
  .exact hd h
 case load x sz ag=>
  have hd:=λh=>e (o':=.load x sz ag) d h
  simp only[wop]at h⊢;rw[←d x (by simp[XO.qb])]
  split at h
  .exact hd h
  .exact h.elim
  .split at h
   .split at h
    .obtain⟨v,h1,h2⟩:=h;exact⟨v,h1,mk h2⟩
    .exact h.elim
   .exact h.elim
  .exact hd h
 case qD x f=>
  have hd:=λh=>e (o':=.qD x f) d h
  simp only[wop]at h⊢;rw[←d x (by simp[XO.qb])]
  split at h
  .split at h
   .split at h
    .exact mk h
    .exact h.elim
   .exact h.elim
  .exact hd h
 case store x y sz=>
  have hd:=λh=>e (o':=.store x y sz) d h
  simp only[wop]at h⊢;rw[←d x (by simp[XO.qb]),←d y (by simp[XO.qb])]
  split at h
  .split at h
   .split at h
    .split at h
     .split at h
      .split at h
       .exact mk h
       .exact h.elim
      .exact h.elim
     .exact h.elim
    .exact h.elim
   .exact h.elim
  .exact hd h
 case vU x=>
  simp only[wop]at h⊢;rw[←d x (by simp[XO.qb])]
  split at h
  .exact mk h
  .exact h.elim
 case vF x=>
  simp only[wop]at h⊢;rw[←d x (by simp[XO.qb])]
  split at h
  .split at h
   .split at h
    .obtain⟨v,h1,h2⟩:=h;exact⟨v,h1,mk h2⟩
    .exact h.elim
   .exact h.elim
  .split at h
   .obtain⟨v,h1,h2⟩:=h;exact⟨v,h1,mk h2⟩
   .exact h.elim
  .exact mk h
  .exact h.elim
 case qx len sz z ps=>
  cases q with
  |cons N q=>
   cases N with
   |c u=>
    have k:zBe G fr z ps=zBe G fr' z ps:=zG5 λy j=>d y (by simp only[XO.qb];exact j)
    have p:bsL G fr len sz z ps=bsL G fr' len sz z ps:=by unfold bsL;rw[k]
    simp only[wop]at h⊢;rw[←p];split at h
    .exact mk h
    .exact h.elim
   |_=>exact e d h
  |nil=>
   have k:zBe G fr z ps=zBe G fr' z ps:=zG5 λy j=>d y (by simp only[XO.qb];exact j)
   simp only[wop]at h⊢;rw[←k];split at h
   .split at h
    .split at h
     .split at h
      .exact mk h
      .exact h.elim
     .exact h.elim
    .exact h.elim
   .exact h.elim
 case qN l c sz bytes z=>
  simp only[wop]at h⊢;rw[←d l (by simp[XO.qb]),←d c (by simp[XO.qb])]
  split at h
  .split at h
   .split at h
    .exact⟨h.1,mk h.2⟩
    .exact h.elim
   .exact h.elim
  .exact h.elim
 case append x y sz bytes=>
  simp only[wop]at h⊢;rw[←d x (by simp[XO.qb]),←d y (by simp[XO.qb])]
  split at h
  .exact h.elim
  .split at h
   .split at h
    .split at h
     .split at h
      .split at h
       .exact⟨h.1,mk h.2⟩
       .split at h
        .split at h
         .exact⟨h.1,mk h.2⟩
         .exact h.elim
        .exact h.elim
       .exact h.elim
      .exact h.elim
     .exact h.elim
    .exact h.elim
   .exact h.elim
 case wv=>exact mk h
 case lookup ag kd mm x z ok=>
  simp only[wop]at h⊢;rw[←d mm (by simp[XO.qb]),←d x (by simp[XO.qb])]
  split at h
  .split at h
   .split at h
    .split at h
     .obtain⟨v,h1,h2⟩:=h;exact⟨v,h1,mk h2⟩
     .exact h.elim
    .exact h.elim
   .exact h.elim
  .exact h.elim
 case wR ag kd mm x y=>
  simp only[wop]at h⊢;rw[←d mm (by simp[XO.qb]),←d x (by simp[XO.qb]),←d y (by simp[XO.qb])]
  split at h
  .split at h
   .split at h
    .split at h
     .split at h
      .obtain⟨v,h1,h2⟩:=h;exact⟨v,h1,mk h2⟩
      .exact h.elim
     .exact h.elim
    .exact h.elim
   .exact h.elim
  .exact h.elim
 case call f xs=>
  have k:evs G fr xs=evs G fr' xs:=zC1 λy j=>d y (by simp[XO.qb,j])
  simp only[wop]at h⊢;rw[←k];split at h
  .exact zVj A h
  .exact h.elim
 case qO fx xs=>
  have k:evs G fr xs=evs G fr' xs:=zC1 λy j=>d y (by simp[XO.qb,j])
  simp only[wop]at h⊢;rw[←d fx (by simp[XO.qb]),←k]
  split at h
  .split at h
   .exact zVj A h
   .exact h.elim
  .exact h.elim
theorem zY7{o:XO}(b:z8 o=0){v:AV}{H':Heap}{n:Nat}(h:xoS G zf fr H m o=some (v,H',n)):H'=H/\n=m/\∀H2 m2,xoS G zf fr H2 m2 o=some (v,H2,m2):=by
 cases o<;>first|(simp[z8]at b;done)|(simp only[xoS]at h⊢;repeat' split at h)<;>first|(cases h;done)|(cases h;simp_all;done)|(cases h;simp_all;omega)
theorem zY8{o:XO}{j:List K}(k:z8 o=0)(I:∀x,o≠.wq x)(z:∀v s,C v s->s.mv=mv)(q:∀v f,C v ⟨f,H,V,m,mv⟩->C' v ⟨f,H2,V2,m2,mv2⟩)(h:wop G tb ⟨fr,H,V,m,mv⟩ o j C):wop G tb ⟨fr,H2,V2,m2,mv2⟩ o j C':=by
 have mk:∀{v:AV}{f:Fr},C v ⟨f,H,V,m,mv⟩->C' v ⟨f,H2,V2,m2,mv2⟩:=λh=>q _ _ h
 have d:∀{o':XO},z8 o'=0->WXd ⟨fr,H,V,m,mv⟩ (xoS G zf fr H m o') C->WXd ⟨fr,H2,V2,m2,mv2⟩ (xoS G zf fr H2 m2 o') C':=λk h=>by
  unfold WXd at h;split at h
  .rename_i v M n e;obtain⟨rfl,rfl,F⟩:=zY7 k e;unfold WXd;rw[F H2 m2];exact mk h
  .exact h.elim
 cases o<;>try (exact h.elim)
 all_goals try (simp[z8]at k;done)
 all_goals try (exact d k h)
 case wg x i l sz ag=>
  cases j with
  |nil=>exact d k h
  |cons D j=>
   simp only[wop]at h⊢;split at h
   .exact⟨h.1,zDV h.2 λA p=>d rfl p⟩
   .exact h.elim
 case qz x i l sz=>
  cases j with
  |nil=>exact d k h
  |cons D j=>
   simp only[wop]at h⊢;split at h
   .exact⟨h.1,zDV h.2 λA p=>d rfl p⟩
   .exact h.elim
 case pick c a b=>
  have hd:=λh=>d (o':=.pick c a b) rfl h
  simp only[wop]at h⊢;split at h
  .rename_i J B;split at h
   .rename_i n;rcases zDz h with⟨rfl,h⟩|⟨rfl,h⟩
    .simp only[Br];cases hv:a.ev G fr with
     |some v=>rw[hv]at h;exact mk h
     |none=>rw[hv]at h;exact h.elim
    .simp only[Br];cases hv:b.ev G fr with
     |some v=>rw[hv]at h;exact mk h
     |none=>rw[hv]at h;exact h.elim
   .exact hd h
  .exact h.elim
 case bin op x y=>
  have hd:=λh=>d (o':=.bin op x y) rfl h
  simp only[wop]at h⊢;split at h
  .cases op with
   |add=>
    simp only at h⊢;split at h
    .exact⟨h.1,mk h.2⟩
    .exact h.elim
   |_=>exact hd h
  .cases op with
   |quo=>
    simp only at h⊢;split at h
    .split at h
     .exact⟨h.1,mk h.2⟩
     .exact h.elim
    .exact h.elim
   |rem=>
    simp only at h⊢;split at h
    .split at h
     .exact⟨h.1,mk h.2⟩
     .exact h.elim
    .exact h.elim
   |shl=>
    simp only at h⊢;split at h
    .exact⟨h.1,mk h.2⟩
    .exact h.elim
   |shr=>
    simp only at h⊢;split at h
    .exact⟨h.1,mk h.2⟩
    .exact h.elim
   |_=>exact hd h
  .exact h.elim
 case wG neg kd x y=>
  simp only[wop]at h⊢;split at h
  .split at h
   .split at h
    .exact mk h
    .exact h.elim
   .exact h.elim
  .exact h.elim
 case wW x i=>
  simp only[wop]at h⊢;split at h
  .split at h
   .obtain⟨c,h1,h2⟩:=h;exact⟨c,h1,mk h2⟩
   .exact h.elim
  .exact h.elim
 case wP x lo hi=>
  simp only[wop]at h⊢;split at h
  .split at h
   .split at h
    .exact zJr h λl u h=>mk h
    .exact h.elim
   .exact h.elim
  .exact h.elim
 case wA x lo hi mx sz=>
  have hd:=λh=>d (o':=.wA x lo hi mx sz) rfl h
  simp only[wop]at h⊢;split at h
  .split at h
   .split at h
    .split at h
     .split at h
      .exact zJr h λl u h=>mk h
      .exact h.elim
     .exact h.elim
    .exact h.elim
   .exact h.elim
  .exact hd h
  .exact h.elim
 case qB x i sz=>
  simp only[wop]at h⊢;split at h
  .split at h
   .split at h
    .obtain⟨v,h1,h2⟩:=h;exact⟨v,h1,mk h2⟩
    .exact h.elim
   .exact h.elim
  .split at h
   .split at h
    .split at h
     .exact absurd (show mv+1=mv from z _ _ h.2) (by omega)
     .exact h.elim
    .exact h.elim
   .exact h.elim
  .split at h
   .exact⟨h.1,zDV h.2 λA p=>d rfl p⟩
   .exact h.elim
  .exact h.elim
 case wq x=>exact absurd rfl (I x)
 case qD x f=>
  have hd:=λh=>d (o':=.qD x f) rfl h
  simp only[wop]at h⊢;split at h
  .split at h
   .split at h
    .exact absurd (show mv+1=mv from z _ _ h) (by omega)
    .exact h.elim
   .exact h.elim
  .exact hd h
structure Ext1(H H2:Heap)(mv ms:Nat):Prop where
 g:∀h,h<ms->H2.get h=H.get h
 c:∀h str cs,h<ms->H.get h=some (.cells str cs)->∀c∈cs,CP mv ms c
theorem zct{ms:Nat}(x:Ext1 H H2 mv ms):∀(d:Nat){v:AV},CP mv ms v->frz H2 V d v=frz H V d v:=by
 intro d
 induction d with
 |zero=>intro v _;rfl
 |succ d y=>
  intro v hc;have al:∀{l:JE},(∀e∈l,CP mv ms e)->zC (frz H2 V d) l=zC (frz H V d) l:=by
   intro l
   induction l with
   |nil=>intro _;rfl
   |cons a r j=>intro p;simp only[zC,y (p a (.head _)),j λe u=>p e (.tail _ u)]
  cases hc with
  |ptr h o i=>
   simp only[frz,x.g h i];cases hg:H.get h with
   |none=>rfl
   |some q=>
    cases q with
    |cells str n=>simp only[al (x.c h str n i hg)]
    |_=>rfl
  |row h o l s c e i=>simp only[frz,x.g h i]
  |func f a b z hb=>simp only[frz,al z,al hb]
  |agg n k=>simp only[frz,al k]
  |_=>rfl
def ze3:XO->Prop
 |.wq _|.load _ _ _|.lookup _ _ _ _ _ _|.call _ _|.qO _ _=>True
 |_=>False
theorem zY9{o:XO}{T:List K}{ms:Nat}(hG:GPP G)(j:zx o=true)(x:Ext1 H H2 mv ms)(hf:∀t v,XV.t t∈o.qb->fr.get t=some v->CP mv ms v)(ho:ze3 o)
  (S:∀v,C v ⟨fr,H,V,m,mv⟩->C' v ⟨fr,H2,V,m2,mv⟩) (h:wop G tb ⟨fr,H,V,m,mv⟩ o T C):wop G tb ⟨fr,H2,V,m2,mv⟩ o T C':=by
 have mk:∀{v:AV},C v ⟨fr,H,V,m,mv⟩->C' v ⟨fr,H2,V,m2,mv⟩:=λh=>S _ h
 have B:∀{y:XV}{v:AV},y∈o.qb->zG y=true->y.ev G fr=some v->CP mv ms v:=λ{y v} l k b=>by
  cases y with
  |t n=>exact hf n v l b
  |g n=>exact(hG n v b).cp
  |c u=>
   have:u=v:=by simpa[XV.ev]using b
   subst this;exact(zA0 12 k).cp
 have F:∀{A:List XV}{d:JE},(∀y∈A,y∈o.qb/\zG y=true)->evs G fr A=some d->∀v∈d,CP mv ms v:=by
  intro A
  induction A with
  |nil=>intro d _ e v b;cases e;cases b
  |cons y r O=>
   intro d l e v b;simp only[evs]at e;split at e
   .rename_i u hu;split at e
    .rename_i us N;cases e;rcases QJ.1 b with rfl|b
     .exact B (l y (.head _)).1 (l y (.head _)).2 hu
     .exact O (λz hz=>l z (.tail _ hz)) N v b
    .cases e
   .cases e
 have p:∀{f:Nat}{d:JE},(∀v∈d,CP mv ms v)->zCY tb f d ⟨fr,H,V,m,mv⟩ C->zCY tb f d ⟨fr,H2,V,m2,mv⟩ C':=λ{f d} D h=>by
  have R:zC (frz H2 V 8) d=zC (frz H V 8) d:=by
   clear h
   induction d with
   |nil=>rfl
   |cons a r O=>simp only[zC,zct x 8 (D a (.head _)),O λv b=>D v (.tail _ b)]
  unfold zCY at h⊢;cases hh:d.any (zCC 8)with
  |false=>rw[hh]at h;exact zIs h λv h=>mk h
  |true=>
   rw[hh]at h;simp only[R];simp only at h;split at h
   .refine zIs h λv h=>?_
    split at h
    .exact mk h
    .exact h.elim
   .exact h.elim
 cases o<;>try (exact(show False from ho).elim)
 case wq y=>
  simp only[wop]at h⊢;split at h
  .split at h
   .exact mk h
   .exact h.elim
  .unfold WXd at h;split at h
   .rename_i v W n e;obtain⟨rfl,rfl,Y⟩:=zY7 rfl e;unfold WXd;rw[Y H2 m2];exact mk h
   .exact h.elim
 case load y sz ag=>
  have k:zG y=true:=by simp only[zx,XO.qb,z7,QT,QY,List.all_nil]at j;exact j
  have I:WXd ⟨fr,H,V,m,mv⟩ (xoS G zf fr H m (.load y sz ag)) C->WXd ⟨fr,H2,V,m2,mv⟩ (xoS G zf fr H2 m2 (.load y sz ag)) C':=λh=>by
   unfold WXd at h;split at h
   .rename_i v W n e;have X:xoS G zf fr H2 m2 (.load y sz ag)=some (v,H2,m2)/\W=H/\n=m:=by
     simp only[xoS]at e⊢;cases b:y.ev G fr with
     |none=>rw[b]at e;cases e
     |some a=>
      rw[b]at e;simp only at e⊢;have hc:=B (by simp[XO.qb]) k b
      have q:zER H2 sz ag a=zER H sz ag a:=by
       cases hc<;>first|rfl|(simp only[zER,x.g _ ‹_›];done)|skip
      rw[q];split at e
      .cases e;exact⟨rfl,rfl,rfl⟩
      .cases e
    obtain⟨e1,rfl,rfl⟩:=X;unfold WXd;rw[e1];exact mk h
   .exact h.elim
  simp only[wop]at h⊢;split at h
  .exact I h
  .exact h.elim
  .split at h
   .split at h
    .obtain⟨v,h1,h2⟩:=h;exact⟨v,h1,mk h2⟩
    .exact h.elim
   .exact h.elim
  .exact I h
 case lookup ag kd mm y z ok=>
  simp only[wop]at h⊢;split at h
  .split at h
   .split at h
    .split at h
     .obtain⟨v,h1,h2⟩:=h;exact⟨v,h1,mk h2⟩
     .exact h.elim
    .exact h.elim
   .exact h.elim
  .exact h.elim
 case call f A=>
  have i:A.all zG=true:=by simp only[zx,XO.qb,z7,QT]at j;exact j
  simp only[wop]at h⊢;split at h
  .rename_i d b;exact p (F (λy l=>⟨by simp only[XO.qb];exact l,QH.1 i y l⟩) b) h
  .exact h.elim
 case qO fx A=>
  have i:zG fx=true/\A.all zG=true:=by simp only[zx,XO.qb,z7,List.all_append,QY,List.all_nil,QT,QA]at j;exact j
  simp only[wop]at h⊢;split at h
  .rename_i f first U M;split at h
   .rename_i d b;refine p (λv J=>?_) h
    have Q:=B (by simp[XO.qb]) i.1 M
    cases Q with
    |func _ _ _ q1 q2=>
     rcases QI.1 J with q|q
     .rcases QI.1 q with q|q
      .exact q1 v q
      .exact F (λy l=>⟨by simp[XO.qb,l],QH.1 i.2 y l⟩) b v q
     .exact q2 v q
   .exact h.elim
  .exact h.elim
theorem zK3{h:Nat}:∀{g:JN}{H:Heap}{V:Vecs}{mv:Nat},qE h g ⟨fr',H,V,m,mv⟩=⟨fr',(qE h g ⟨fr,H,V,m,mv⟩).H,(qE h g ⟨fr,H,V,m,mv⟩).V,(qE h g ⟨fr,H,V,m,mv⟩).m,(qE h g ⟨fr,H,V,m,mv⟩).mv⟩/\(qE h g ⟨fr,H,V,m,mv⟩).fr=fr
 |[],H,V,mv=>⟨rfl,rfl⟩
 |(i,e)::g,H,V,mv=>by
  simp only[qE];cases hg:H.get h with
  |none=>exact⟨rfl,rfl⟩
  |some d=>
   cases d with
   |cells str b=>
    simp only;cases hc:b[i]? with
    |none=>exact zK3
    |some c=>
     cases c<;>simp only<;>(try exact zK3)
     all_goals
      split
      .exact zK3
      .exact zK3
   |_=>exact⟨rfl,rfl⟩
theorem zaC{g:JN}{args:JE}:qL g args ⟨fr',H,V,m,mv⟩=⟨fr',(qL g args ⟨fr,H,V,m,mv⟩).H,(qL g args ⟨fr,H,V,m,mv⟩).V,(qL g args ⟨fr,H,V,m,mv⟩).m,(qL g args ⟨fr,H,V,m,mv⟩).mv⟩/\(qL g args ⟨fr,H,V,m,mv⟩).fr=fr:=by
 unfold qL;split
 .exact zK3
 .exact⟨rfl,rfl⟩
theorem zWk{hm sm:JV}{vs:JE}{st d:Sta}{k e:JE->Heap->Vecs->Prop}(j:d.H=st.H)(i:d.V=st.V)(h:zC7 hm sm vs st k)(f:∀a b c,k a b c->e a b c):zC7 hm sm vs d e:=by
 unfold zC7 at h⊢;rw[j,i];split at h
 .split at h
  .split at h
   .split at h
    .exact f _ _ _ h
    .exact h.elim
   .exact h.elim
  .exact h.elim
 .exact h.elim
theorem zTT{e:HEnt}{args:JE}(i:∀v f s,C v f->SameQ fr fr' f s->C' v s)(h:zEY e args ⟨fr,H,V,m,mv⟩ C):zEY e args ⟨fr',H,V,m,mv⟩ C':=by
 obtain⟨g1,g2⟩:=zaC (fr:=fr) (fr':=fr') (H:=H) (V:=V) (m:=m) (mv:=mv) (g:=e.grow) (args:=args);unfold zEY at h⊢;rw[g1];generalize j:qL e.grow args ⟨fr,H,V,m,mv⟩=s at *;unfold zKY at h⊢;refine zWk (st:=s) rfl rfl h λa b c d=>⟨d.1,?_⟩
 have:=d.2;split at this
 .refine i _ _ _ this ?_
  unfold zKl;cases inpl e.grow<;>exact⟨rfl,rfl,rfl,rfl,λt=>by rw[←g2],λt=>rfl⟩
 .exact this.elim
theorem zS5{t:TOp}(d:∀x∈t.o.op.qb,x.ev G fr=x.ev G fr')(i:∀v l s,C v l->SameQ fr fr' l s->C' v s)(h:zB2 G tb ⟨fr,H,V,m,mv⟩ t C):zB2 G tb ⟨fr',H,V,m,mv⟩ t C':=by
 unfold zB2 at h⊢;split at h
 .exact zem d i h
 .rename_i p u;unfold zPh at h⊢;split at h
  .rename_i f args b;rw[b]at d;have k:evs G fr args=evs G fr' args:=zC1 λy j=>d y (by simp[XO.qb,j])
   simp only[←k];cases hl:zKm p f with
   |none=>rw[hl]at h;exact h.elim
   |some e=>
    rw[hl]at h;simp only at h⊢;cases hv:evs G fr args with
    |none=>rw[hv]at h;exact h.elim
    |some z=>rw[hv]at h;exact zTT i h
  .rename_i n args b;rw[b]at d;have k:evs G fr args=evs G fr' args:=zC1 λy j=>d y (by simp[XO.qb,j])
   have A:=d n (by simp[XO.qb])
   simp only[←k,←A];cases hf:n.ev G fr with
   |none=>rw[hf]at h;exact h.elim
   |some B=>
    rw[hf]at h;cases B with
    |func fn first q=>
     cases fn with
     |func f=>
      simp only at h⊢;cases hl:zKm p f with
      |none=>rw[hl]at h;exact h.elim
      |some e=>
       rw[hl]at h;simp only at h⊢;cases hv:evs G fr args with
       |none=>rw[hv]at h;exact h.elim
       |some z=>rw[hv]at h;exact zTT i h
     |_=>exact h.elim
    |_=>exact h.elim
  .exact h.elim
end
theorem HV.refl(s:Sta):HV s s:=⟨rfl,rfl,rfl,rfl⟩
theorem HV.trans{a b c:Sta}(h:HV a b)(k:HV b c):HV a c:=⟨k.H.trans h.H,k.V.trans h.V,k.m.trans h.m,k.mv.trans h.mv⟩
theorem HV.symm{a b:Sta}(h:HV a b):HV b a:=⟨h.H.symm,h.V.symm,h.m.symm,h.mv.symm⟩
section
variable{G:Cx}{tb:TblS}{s s1 r:Sta}{t:TOp}
theorem cls1(b:t.h=none)(h:clsQ t=1):ze3 t.o.op:=by
 obtain⟨⟨d,op,g⟩,f,e⟩:=t;simp only at b;subst b;simp only[clsQ]at h;cases op<;>first|trivial|(simp[z8]at h;done)|(simp only at h;split at h<;>cases h;done)
theorem cls0(b:t.h=none)(h:clsQ t=0):(z8 t.o.op=0/\∀x,t.o.op≠.wq x)\/(isC t.ks=true/\((∃x sz f,t.o.op=.load x sz f)\/∃len sz z i,t.o.op=.qx len sz z i)):=by
 obtain⟨⟨d,op,g⟩,k,j⟩:=t;simp only at b;subst b;simp only[clsQ]at h;cases op<;>first|(simp[z8]at h;done)|exact .inl ⟨rfl,λx e=>by cases e⟩|(simp only at h;split at h<;>cases h;done)|skip
 .simp only at h;split at h
  .cases h
  .exact .inr ⟨rfl,.inr ⟨_,_,_,_,rfl⟩⟩
  .cases h
 .simp only at h;split at h
  .rename_i hc;exact .inr ⟨hc,.inl ⟨_,_,_,rfl⟩⟩
  .cases h
theorem zZa{fr:Fr}{H H2:Heap}{V V2:Vecs}{m m2 mv mv2:Nat}{len sz:Nat}{z:JE}{e:List (Nat×Nat×XV)}{b:List K}(hc:isC b=true){C C':AV->Sta->Prop}(d:∀v,C v ⟨fr,H,V,m,mv⟩->C' v ⟨fr,H2,V2,m2,mv2⟩)(h:wop G tb ⟨fr,H,V,m,mv⟩ (.qx len sz z e) b C):wop G tb ⟨fr,H2,V2,m2,mv2⟩ (.qx len sz z e) b C':=by
 cases b with
 |nil=>cases hc
 |cons f b=>
  cases f with
  |c u=>
   simp only[wop]at h⊢;split at h
   .exact d _ h
   .exact h.elim
  |_=>cases hc
theorem zZb{fr:Fr}{H H2:Heap}{V V2:Vecs}{m m2 mv mv2:Nat}{x:XV}{sz:Nat}{f:Bool}{b:List K}(hc:isC b=true){C C':AV->Sta->Prop}(d:∀v,C v ⟨fr,H,V,m,mv⟩->C' v ⟨fr,H2,V2,m2,mv2⟩)(h:wop G tb ⟨fr,H,V,m,mv⟩ (.load x sz f) b C):wop G tb ⟨fr,H2,V2,m2,mv2⟩ (.load x sz f) b C':=by
 cases hx:x.ev G fr with
 |none=>simp only[wop,hc,hx]at h
 |some a=>
  cases a with
  |qc e off=>
   simp only[wop,hc,hx,xoS,zER]at h⊢;cases hp:part e.cells off sz f with
   |none=>rw[hp]at h;exact h.elim
   |some v=>rw[hp]at h;exact d _ h
  |_=>simp only[wop,hc,hx]at h
structure Fit(G:Cx)(t:TOp)(s r:Sta):Prop where
 ag:∀g∈zKi t.o.op.qb,r.fr.get g=s.fr.get g
 gd:∀g b,t.o.guard=some (g,b)->r.fr.get g=s.fr.get g
 c1:clsQ t=1->r.V=s.V/\r.mv=s.mv/\∃ms,Ext1 s.H r.H s.mv ms/\∀g v,XV.t g∈t.o.op.qb->s.fr.get g=some v->CP s.mv ms v
 c2:2<=clsQ t->HV s r
theorem zZc(X:GPP G)(D:zx t.o.op=true)(y:Fit G t s r){C C':AV->Sta->Prop}(N:clsQ t<=1->∀v b,C v b->HV s b)
  (u:∀v b x,C v b->(∀g,b.fr.get g=s.fr.get g)->(∀g,x.fr.get g=r.fr.get g)->(clsQ t<=1->HV r x)->(2<=clsQ t->HV b x)->C' v x) (h:zB2 G tb s t C):zB2 G tb r t C':=by
 obtain⟨fr,H,V,m,mv⟩:=s;obtain⟨fr',H',T,W,B⟩:=r;have K:∀x∈t.o.op.qb,x.ev G fr=x.ev G fr':=λx U=>by
  cases x with
  |t n=>exact(y.ag n (zEt U)).symm
  |_=>rfl
 by_cases hc:2<=clsQ t
 .obtain⟨I,k,J,p⟩:=y.c2 hc;simp only at I k J p;subst I;subst k;subst J;subst p;exact zS5 K (λv b x h q=>u v b x h q.f0 q.f (λh=>by omega) λ_=>⟨q.H,q.V,q.m,q.mv⟩) h
 .have i:clsQ t<=1:=by omega
  have h1:=zS5 (C':=λv x=>∃b,C v b/\SameQ fr fr' b x) K (λv b x h q=>⟨b,h,q⟩) h
  have d:t.h=none:=by
   cases hh:t.h with
   |none=>rfl
   |some es=>unfold clsQ at i;rw[hh]at i;simp at i
  unfold zB2 at h1⊢;rw[d]at h1⊢;have fin:∀{v:AV}{f:Fr}{H2:Heap}{V2:Vecs}{m2 mv2:Nat},H2=H'->V2=T->m2=W->mv2=B->(∃b,C v b/\SameQ fr fr' b ⟨f,H,V,m,mv⟩)->C' v ⟨f,H2,V2,m2,mv2⟩:=λ{v f H2 V2 m2 mv2} q1 q2 Q S ⟨b,h,q⟩=>by
   subst q1;subst q2;subst Q;subst S;exact u v b _ h q.f0 q.f (λ_=>⟨rfl,rfl,rfl,rfl⟩) λh=>by omega
  by_cases l:clsQ t=1
  .obtain⟨k,p,ms,M,A⟩:=y.c1 l;simp only at k p;subst k;subst p;refine zY9 X D M (λg v F Y=>A g v F (by rw[←Y];exact(y.ag g (zEt F)).symm)) (cls1 d l) (λv h=>fin rfl rfl rfl rfl h) h1
  .have O:clsQ t=0:=by omega
   rcases cls0 d O with j|⟨j,⟨x,R,ag,e⟩|⟨len,R,z,ps,e⟩⟩
   .refine zY8 j.1 j.2 (λv x ⟨b,h,q⟩=>?_) (λv f h=>fin rfl rfl rfl rfl h) h1
    rw[q.mv];exact(N i v b h).mv
   .rw[e]at h1⊢;exact zZb j (λv h=>fin rfl rfl rfl rfl h) h1
   .rw[e]at h1⊢;exact zZa j (λv h=>fin rfl rfl rfl rfl h) h1
theorem zXI(M:GPP G)(J:zx t.o.op=true)(n:Fit G t s r)(y:clsQ t<=1->HV s s1)(h:zD1 G tb s t (λx=>x=s1)){k:Sta->Prop}
  (u:∀x,(clsQ t<=1->HV r x)->(2<=clsQ t->HV s1 x)->(∀g,x.fr.get g=if t.o.dst=some g then s1.fr.get g else r.fr.get g)->k x):zD1 G tb r t k:=by
 have j:∀{x:Sta}{v:AV}{g:Nat},(x.put t.o.dst v).fr.get g=if t.o.dst=some g then some v else x.fr.get g:=λ{x v g}=>by
  cases hd:t.o.dst with
  |none=>simp[Sta.put,qv]
  |some d=>
   show(x.fr.put d v).get g=_
   rw[Fr.qu];simp
 have i:∀(x:Sta)(v:AV),HV x (x.put t.o.dst v):=λx v=>by
  cases t.o.dst<;>exact⟨rfl,rfl,rfl,rfl⟩
 have q:∀{s r:Sta},Fit G t s r->(clsQ t<=1->HV s s1)->(∀x,(clsQ t<=1->HV r x)->(2<=clsQ t->HV s1 x)->(∀g,x.fr.get g=if t.o.dst=some g then s1.fr.get g else r.fr.get g)->k x)->zB2 G tb s t (λv x=>∃l,WK v l/\x.put t.o.dst l=s1)->zB2 G tb r t (λv x=>∃l,WK v l/\k (x.put t.o.dst l)):=λ{s r} n y u h=>by
  refine zZc M J n (λz v I ⟨l,_,e⟩=>?_) (λv I x ⟨l,K,e⟩ f0 f D F=>⟨l,K,u _ (λz=>(D z).trans (i x l)) (λh2=>?_) λg=>?_⟩) h
  .have:=i I l;rw[e]at this;exact(y z).trans this.symm
  .have A:=i I l;rw[e]at A;exact A.symm.trans ((F h2).trans (i x l))
  .rw[j,←e,j];split
   .rfl
   .exact f g
 have skip:∀{s r:Sta},(clsQ t<=1->HV s s1)->Fit G t s r->(∀x,(clsQ t<=1->HV r x)->(2<=clsQ t->HV s1 x)->(∀g,x.fr.get g=if t.o.dst=some g then s1.fr.get g else r.fr.get g)->k x)->s.put t.o.dst (.qd [])=s1->k (r.put t.o.dst (.qd [])):=λ{s r} y n u e=>by
  refine u _ (λ_=>i r _) (λh2=>?_) λg=>?_
  .have A:=i s (.qd []);rw[e]at A;exact A.symm.trans ((n.c2 h2).trans (i r _))
  .rw[j,←e,j];split<;>rfl
 unfold zD1 at h⊢;cases hg:t.o.guard with
 |none=>
  rw[hg]at h;exact q n y u h
 |some p=>
  obtain⟨g,b⟩:=p;rw[hg]at h;simp only at h⊢;rw[n.gd g b hg];split at h
  .rename_i c hc;have B:r.fr.get g=some (.bool c):=(n.gd g b hg).trans hc;unfold brT at h⊢;rcases zDz h with⟨rfl,h⟩|⟨rfl,h⟩
   .simp only[Br,qt B]at h⊢;simp only[qt hc]at h;cases b with
    |true=>exact q n y u h
    |false=>exact skip y n u h
   .simp only[Br,qt B]at h⊢;simp only[qt hc]at h;cases b with
    |true=>exact skip y n u h
    |false=>exact q n y u h
  .exact skip y n u h
  .exact h.elim
end
section
variable{G:Cx}{tb:TblS}{s s1:Sta}{t:TOp}
theorem zPs{n:Int}{l:Nat}{k:Nat->Prop}(h:0<=n/\n<.ofNat l)(b:zIp n l k):∃m,k m:=by
 obtain⟨m,rfl⟩:=Int.eq_ofNat_of_zero_le h.1;exact⟨m,zDE b m (Int.ofNat_lt.1 h.2) rfl⟩
theorem zIt{x:Option Out}{C:AV->Sta->Prop}(h:WXd s x C):∃v x,C v x:=by
 unfold WXd at h;split at h
 .exact⟨_,_,h⟩
 .exact h.elim
theorem zTU{n:Int}{lo hi:JF}{k:Int->Int->Prop}(h:zJy n lo hi k):∃l u,k l u:=by
 cases lo with
 |none=>
  cases hi with
  |none=>exact⟨_,_,h⟩
  |some u=>cases u<;>first|exact⟨_,_,h.2⟩|exact h.elim
 |some l=>
  cases l with
  |int b l=>
   cases hi with
   |none=>exact⟨_,_,h.2⟩
   |some u=>cases u<;>first|exact⟨_,_,h.2⟩|exact h.elim
  |_=>exact h.elim
theorem zVk{f:Nat}{vs:JE}{C:AV->Sta->Prop}(h:zCY tb f vs s C):∃v x,C v x:=by
 unfold zCY at h;split at h
 .obtain⟨_,_,_,_,v,_,h⟩:=zEz h;exact⟨_,_,h⟩
 .split at h
  .obtain⟨_,_,_,_,v,_,h⟩:=zEz h;split at h
   .exact⟨_,_,h⟩
   .exact h.elim
  .exact h.elim
theorem zPt{o:XO}{d:List K}{C:AV->Sta->Prop}(h:wop G tb s o d C):∃v x,C v x:=by
 cases o<;>try (exact h.elim)
 all_goals try (exact zIt h)
 case wg x i l sz ag=>
  simp only[wop]at h;split at h
  .exact zIt h
  .split at h
   .obtain⟨m,h⟩:=zPs h.1 h.2;exact zIt h
   .exact h.elim
 case qz x i l sz=>
  simp only[wop]at h;split at h
  .exact zIt h
  .split at h
   .obtain⟨m,h⟩:=zPs h.1 h.2;exact zIt h
   .exact h.elim
 case pick c a b=>
  simp only[wop]at h;split at h
  .split at h
   .rcases zDz h with⟨_,h⟩|⟨_,h⟩
    .split at h
     .exact⟨_,_,h⟩
     .exact h.elim
    .split at h
     .exact⟨_,_,h⟩
     .exact h.elim
   .exact zIt h
  .exact h.elim
 case wP x lo hi=>
  simp only[wop]at h;split at h
  .split at h
   .split at h
    .obtain⟨l,u,h⟩:=zTU h;exact⟨_,_,h⟩
    .exact h.elim
   .exact h.elim
  .exact h.elim
 case wA x lo hi mx sz=>
  simp only[wop]at h;split at h
  .split at h
   .split at h
    .split at h
     .split at h
      .obtain⟨l,u,h⟩:=zTU h;exact⟨_,_,h⟩
      .exact h.elim
     .exact h.elim
    .exact h.elim
   .exact h.elim
  .exact zIt h
  .exact h.elim
 case call f xs=>
  simp only[wop]at h;split at h
  .exact zVk h
  .exact h.elim
 case qO fx xs=>
  simp only[wop]at h;split at h
  .split at h
   .exact zVk h
   .exact h.elim
  .exact h.elim
 all_goals
  simp only[wop]at h
  repeat' split at h
  all_goals first
   |exact h.elim
   |exact⟨_,_,h⟩
   |(obtain⟨m,h⟩:=zPs h.1 h.2;exact zIt h)
   |exact⟨_,_,h.2⟩
   |exact zIt h
   |(obtain⟨_,_,h⟩:=h;exact⟨_,_,h⟩)
theorem zZd{hm sm:JV}{vs:JE}{st:Sta}{k:JE->Heap->Vecs->Prop}(h:zC7 hm sm vs st k):∃a b c,k a b c:=by
 unfold zC7 at h
 repeat' split at h
 all_goals first|exact h.elim|exact⟨_,_,_,h⟩
theorem zZe{e:HEnt}{args:JE}{C:AV->Sta->Prop}(h:zEY e args s C):∃v x,C v x:=by
 unfold zEY zKY at h;obtain⟨a,b,c,h⟩:=zZd h;have:=h.2;split at this
 .exact⟨_,_,this⟩
 .exact this.elim
theorem zcu{C:AV->Sta->Prop}(h:zB2 G tb s t C):∃v x,C v x:=by
 unfold zB2 at h;split at h
 .exact zPt h
 .unfold zPh at h
  repeat' split at h
  all_goals first|exact h.elim|exact zZe h
theorem zWl{g:Nat}(h:zD1 G tb s t (λx=>x=s1))(hd:t.o.dst≠some g):s1.fr.get g=s.fr.get g:=by
 have f:∀{x:Sta}{v:AV},(x.put t.o.dst v).fr.get g=x.fr.get g:=λ{x v}=>by
  cases hdd:t.o.dst with
  |none=>rfl
  |some d=>
   show(x.fr.put d v).get g=_
   rw[Fr.qu,if_neg]
   rintro rfl
   exact hd hdd
 have i:zB2 G tb s t (λv x=>∃j,WK v j/\x.put t.o.dst j=s1)->s1.fr.get g=s.fr.get g:=λh=>by
  obtain⟨fr,H,V,m,mv⟩:=s;have:=zS5 (fr':=fr) (C':=λ_ _=>s1.fr.get g=fr.get g) (λx _=>rfl) (λv n x ⟨j,_,e⟩ q=>by rw[←e,f];exact q.f0 g) h
  obtain⟨_,_,h⟩:=zcu this;exact h
 unfold zD1 at h;split at h
 .exact i h
 .split at h
  .rename_i b k l c hc;unfold brT at h;rcases zDz h with⟨rfl,h2⟩|⟨rfl,h2⟩
   .simp only[qt hc]at h2;cases b with
    |true=>exact i h2
    |false=>
     have h2:s.put t.o.dst (.qd [])=s1:=h2;rw[←h2,f]
   .simp only[qt hc]at h2;cases b with
    |true=>
     have h2:s.put t.o.dst (.qd [])=s1:=h2;rw[←h2,f]
    |false=>exact i h2
  .have h:s.put t.o.dst (.qd [])=s1:=h;rw[←h,f]
  .exact h.elim
end
def frL(c:Nat->Sta)(ts:List TOp)(L:Nat->Bool):Nat->Nat->JF
 |0,g=>(c 0).fr.get g
 |k+1,g=>match ts[k]? with
  |some t=>if L k=true/\t.o.dst=some g then(c (k+1)).fr.get g else frL c ts L k g
  |none=>frL c ts L k g
section
variable{G:Cx}{tb:TblS}{lo:Option Nat}{c:Nat->Sta}{ts:List TOp}{L:Nat->Bool}{g:Nat}
theorem zPu(ch:ChQ G tb lo ts c){i:Nat}(h:∀k t,k<i->ts[k]?=some t->t.o.dst=some g->L k=true):∀k,k<=i->k<=ts.length->frL c ts L k g=(c k).fr.get g
 |0,_,_=>rfl
 |k+1,f,j=>by
  have b:ts[k]?=some ts[k]:=QD (by omega)
  simp only[frL,b];split
  .rfl
  .rename_i d;rw[zPu ch h k (by omega) (by omega)]
   refine(zWl (ch.st k _ b) λe=>d ⟨h k _ (by omega) b e,e⟩).symm
theorem zLY{i:Nat}(h:∀k t,i<=k->ts[k]?=some t->L k=true->t.o.dst≠some g):∀k,i<=k->frL c ts L k g=frL c ts L i g
 |0,d=>by
   have:i=0:=by omega
   subst this;rfl
 |k+1,d=>by
  by_cases e:i=k+1
  .subst e;rfl
  .simp only[frL];cases ht:ts[k]? with
   |none=>exact zLY h k (by omega)
   |some t=>
    simp only;rw[if_neg λb=>h k t (by omega) ht b.1 b.2]
    exact zLY h k (by omega)
theorem zRo(ch:ChQ G tb lo ts c){a:Nat}:∀b,a<=b->b<=ts.length->(∀k t,a<=k->k<b->ts[k]?=some t->clsQ t<=1)->HV (c a) (c b)
 |0,h,_,_=>by
   have:a=0:=by omega
   subst this;exact HV.refl _
 |b+1,h,i,f=>by
  by_cases e:a=b+1
  .subst e;exact HV.refl _
  .have d:ts[b]?=some ts[b]:=QD (by omega)
   exact(zRo ch b (by omega) (by omega) λk t h1 h2=>f k t h1 (by omega)).trans (ch.hv b _ d (f b _ (by omega) (by omega) d))
structure AlQ(lo:Option Nat)(s r:Sta):Prop where
 V:r.V=s.V
 mv:r.mv=s.mv
 m:s.m<=r.m
 g:∀h,h<zCZ lo s.m->r.H.get h=s.H.get h
theorem zRp(ch:ChQ G tb lo ts c){a:Nat}:∀b,a<=b->b<=ts.length->(∀k t,a<=k->k<b->ts[k]?=some t->clsQ t<=2)->AlQ lo (c a) (c b)
 |0,h,_,_=>by
   have:a=0:=by omega
   subst this;exact⟨rfl,rfl,QB _,λ_ _=>rfl⟩
 |b+1,h,p,j=>by
  by_cases e:a=b+1
  .subst e;exact⟨rfl,rfl,QB _,λ_ _=>rfl⟩
  .have f:ts[b]?=some ts[b]:=QD (by omega)
   have i:=zRp ch b (by omega) (by omega) λk t h1 h2=>j k t h1 (by omega)
   have hc:=j b _ (by omega) (by omega) f
   by_cases h2:clsQ ts[b]=2
   .obtain⟨q1,o,l,n⟩:=ch.al b _ f h2;exact⟨q1.trans i.V,o.trans i.mv,Qh i.m l,λh d=>(n h (QW d (zTM i.m))).trans (i.g h d)⟩
   .have q:=ch.hv b _ f (by omega)
    exact⟨q.V.trans i.V,q.mv.trans i.mv,by rw[q.m];exact i.m,λh d=>by rw[q.H];exact i.g h d⟩
end
section
variable{P:Program}{G:Cx}{nt:Nat}{E:Env}{w:World}{a:Act}{β:Nat->Option Nat}{st:Sta}
 {Z0 B0:Nat->Prop} {w0:World} {dl:List Deferred} {tb:TblS}
theorem Rs.same{s:Sta}(r:Rs G nt Z0 B0 w0 dl E w a st)(h:HV st s)(d:∀g,s.fr.get g=st.fr.get g):Rs G nt Z0 B0 w0 dl E w a s:=by
 obtain⟨fr,H,V,m,mv⟩:=s;obtain⟨f,b,i,j⟩:=h;simp only at f b i j;subst f;subst b;subst i;subst j;obtain⟨β,s,l,k⟩:=r.out;exact⟨β,⟨s.hr,⟨s.hf.size,λt u e=>s.hf.get t u (by rw[←d t];exact e)⟩,s.hg,s.qy,λt u e=>s.wa t u (by rw[←d t];exact e),s.cH,s.qW,s.vp,s.bz,s.qU⟩,l,k⟩
theorem zPv{n:Nat}:∀{l:JV},zDs n l=true↔n∈l
 |[]=>by simp[zDs]
 |a::r=>by
  simp only[zDs];split
  .rename_i h;simp[zb h]
  .rename_i h;have:=zAU h;rw[zPv];simp[this]
theorem zPw{x y:Option Nat}{i f:XD}(h:zIk x i y f=true):(∀d,x=some d->d ∉ f.looks)/\(∀d,y=some d->d ∉ i.looks)/\(∀d,x=some d->y≠some d):=by
 simp only[zIk,QA]at h;obtain⟨⟨h1,h2⟩,h3⟩:=h;refine⟨λd e b=>?_,λd e b=>?_,λd e j=>?_⟩
 .subst e;simp[zPv.2 b]at h1
 .subst e;simp[zPv.2 b]at h2
 .subst e;subst j;simp at h3
theorem zVl(bc:TbW P G tb)(hG:GPP G)(hm:zAZ P G)(au:P.follows .mixedOrders=true){pn:JV}{id:Nat}{ops:Array Oper}{ts:List TOp}{ds:List XD}{Q:Exit->Act->World->Prop}(hc:zN P (.region id ops true)=some (.draw (ts.map TOp.o) ds))(ao:zDZ nt (.draw (ts.map TOp.o) ds)=true)
  (aq:∀t∈ts,zx t.o.op=true) (bm:∀t∈ts,∀es,t.h=some es->∀e∈es,HOK P G e) (bn:∀t∈ts,∀n,t.o.dst=some n->n ∉ pn) (hq:(zIq ts ds&&zJW 0 [] [] [] ts ds)=true) {lo:Option Nat} {c:Nat->Sta} (h0:c 0=st) (ch:ChQ G tb lo ts c) (r:Rs G nt Z0 B0 w0 dl E w a st)
  (hQ:∀E' w' a',Rs G nt Z0 B0 w0 dl E' w' a' (c ts.length)->At pn a a'->Q .normal a' w'):(Code.region id ops true).wp P Q a w:=by
 rw[QA]at hq;have ak:=zQ5 hq.1;have S:=zJB hq.2;simp only[zN]at hc;split at hc
 rotate_left
 .cases hc
 rename_i bb;split at hc
 rotate_left
 .cases hc
 rename_i I;simp only[QK,XC.draw.injEq]at hc;obtain⟨e1,e2⟩:=hc;obtain⟨hl,ha,ai⟩:=zVh (P:=P) bb;rw[e2]at hl ha I;rw[e1]at I;have bo:ts.length=ops.size:=by
  have:=congrArg List.length e1
  simpa using this.symm
 have ba:∀(i:Nat) o,ops[i]?=some o->∃t,ts[i]?=some t/\t.o=zu P ops o:=λi o ho=>by
  have h1:(ops.toList.map (zu P ops))[i]?=some (zu P ops o):=by simp[ho]
  rw[e1,Qb]at h1;cases y:ts[i]? with
  |none=>rw[y]at h1;cases h1
  |some t=>rw[y]at h1;exact⟨t,rfl,by simpa using h1⟩
 have W:∀(i:Nat) t,ts[i]?=some t->∃d,ds[i]?=some d:=λi t y=>by
  have:=(QC.1 y).1;exact⟨ds[i],QD (by omega)⟩
 have X:∀(j k:Nat) tj tk dj F,j<k->ts[j]?=some tj->ts[k]?=some tk->ds[j]?=some dj->ds[k]?=some F->F.qg.testBit j=true\/zIk tj.o.dst dj tk.o.dst F=true:=λj k tj tk dj F bf h1 h2 h3 h4=>by
  have:=(zKV I k tk.o F (by simp[h2]) h4).2 j tj.o dj bf (by simp[h1]) h3
  simpa using this
 refine wp_region_any au ?_
 have r':Rs G nt Z0 B0 w0 dl E { w with drawn:=w.drawn+1 } a st:=by
  obtain⟨β,s,kp,df⟩:=r.out;obtain⟨d1,d2⟩:=zHT (w':={ w with drawn:=w.drawn+1 }) s.hr ⟨rfl,rfl,rfl,rfl⟩ st.m
  have:=s.steps d1 d2 ⟨s.hf.size,λt u y=>d2.vr s.hr (s.hf.get t u y)⟩ s.wa s.cH
  exact⟨β,this.1,kp.trans this.2,df⟩
 refine zWK hl ha ai (λn L a' w'=>(∀(k:Nat) F,L k=true->ds[k]?=some F->∀j,F.qg.testBit j=true->L j=true)/\∃D E' M,M<=ts.length/\(∀(b:Nat) t,ts[b]?=some t->2<=clsQ t->(L b=true↔b<M))/\HV (c M) D/\(∀g,D.fr.get g=frL c ts L ts.length g)/\Rs G nt Z0 B0 w0 dl E' w' a' D/\At pn a a') ?_ ?_ ops.size _ a _ (by simp) (by simp) ?_ ⟨λk F J=>?_,st,E,0,QN _,λb t _ _=>?_,by rw[h0];exact HV.refl _,λg=>?_,r',.refl⟩
 ·
  rintro L a' w' hall ⟨_,D,E',M,hjc,hb,hv,hf,hr,hat⟩
  refine hQ E' w' a' (hr.same ?_ λg=>?_) hat
  .refine hv.symm.trans (zRo ch _ hjc (QB _) λk t h1 h2 y=>?_)
   rcases Nat.lt_or_ge 1 (clsQ t)with R|R
   .have:=(hb k t y R).1 (hall k (by omega))
    omega
   .exact R
  .rw[hf g];exact(zPu ch (i:=ts.length) (λk t J y _=>hall k (by omega)) _ (QB _) (QB _)).symm
 .rintro n L a' w' i o d ⟨R,D,E',M,hjc,hb,hv,hf,hr,hat⟩ ho hd hLi hpre
  have hi:=(Array.getElem?_eq_some_iff.1 ho).1;obtain⟨t,y,et⟩:=ba i o ho;have K:=QF y;have bs:i<ts.length:=by omega
  obtain⟨Y,aa⟩:=ak i t d y hd;have later:∀(k:Nat) q,i<k->ts[k]?=some q->L k=true->(∀g,q.o.dst=some g->g ∉ d.looks)/\∀g,t.o.dst=some g->q.o.dst≠some g:=λk q J l z=>by
   obtain⟨F,A⟩:=W k q l;rcases X i k t q d F J y l hd A with h|h
   .have:=R k F z A i h;rw[hLi]at this;cases this
   .obtain⟨q1,q2,q3⟩:=zPw h;exact⟨q2,q3⟩
  have O:∀g∈d.looks,D.fr.get g=(c i).fr.get g:=λg T=>by
   rw[hf g,zLY (i:=i) (λk q J l z e=>?_) ts.length (by omega)]
   .refine zPu ch (λk q J l e=>?_) i (QB _) (by omega)
    obtain⟨F,A⟩:=W k q l;rcases X k i q t F d J l y A hd with h|h
    .exact hpre k h
    .exact absurd T ((zPw h).1 g e)
   .rcases Nat.lt_or_ge i k with ac|ac
    .exact(later k q ac l z).1 g e T
    .have:k=i:=by omega
     subst this;rw[hLi]at z;cases z
  have ae:2<=clsQ t->M<=i/\HV (c i) D:=λh2=>by
   have h1:M<=i:=by
    rcases Nat.lt_or_ge i M with h|h
    .have:=(hb i t y h2).2 h;rw[hLi]at this;cases this
    .exact h
   refine⟨h1,(zRo ch i h1 (by omega) λk q a6 N l=>?_).symm.trans hv⟩
   rcases Nat.lt_or_ge 1 (clsQ q)with p|p
   .have h3:=(S.b i t d y hd h2).2 k q N l p;rw[Qa]at h3;have:=(hb k q l p).1 (hpre k h3);omega
   .exact p
  obtain⟨β',s',bq,bt⟩:=hr.out;have be:Fit G t (c i) D:=by
   refine⟨λg T=>O g (Y g T),λg b T=>O g (aa g b T),λh1=>?_,λh2=>(ae h2).2⟩
   rcases Nat.le_total M i with ax|bg
   .have al:=zRp ch i ax (by omega) λk q a6 N l=>by
     rcases Nat.lt_or_ge 2 (clsQ q)with p|p
     .have h3:=(S.h i t d y hd h1).2 k q N l p;rw[Qa]at h3;have:=(hb k q l (by omega)).1 (hpre k h3)
      omega
     .exact p
    obtain⟨ag,ah⟩:=ch.rd i t y h1;have low:∀{x:AV},CP (c i).mv (zCZ lo (c i).m) x->CP (c M).mv (c M).m x->CP (c i).mv (zCZ lo (c M).m) x:=λhx hy=>by
     rw[al.mv]at hx⊢;exact(hx.min hy).mono (QB _) (zaw al.m)
    refine⟨hv.V.trans al.V.symm,hv.mv.trans al.mv.symm,zCZ lo (c M).m,⟨λh hh=>by rw[hv.H];exact(al.g h hh).symm,λh str cs hh T cc a7=>?_⟩,λg v T ay=>?_⟩
    .have h2:=ah h str cs (QW hh (zTM al.m)) T cc a7;rw[al.g h hh]at T;obtain⟨_,_,e,bh⟩:=(ch.cp M hjc).2.get T;cases e;exact low h2 (bh cc a7)
    .have:=s'.wa g v (by rw[O g (Y g (zEt T))];exact ay)
     rw[hv.mv,hv.m]at this;exact low (ag g v T ay) this
   .have al:=zRp ch M bg hjc λk q a6 N l=>by
     rcases Nat.lt_or_ge 2 (clsQ q)with p|p
     .have z:=(hb k q l (by omega)).2 N
      obtain⟨F,A⟩:=W k q l;have ac:i<k:=by
       rcases Nat.lt_or_ge i k with h|h
       .exact h
       .have:k=i:=by omega
        subst this;rw[y]at l;cases l;omega
      have h3:=(S.r k q F l A p).2 i t ac y h1;rw[Qa]at h3;have:=R k F z A i h3;rw[hLi]at this;cases this
     .exact p
    obtain⟨ag,ah⟩:=ch.rd i t y h1;exact⟨hv.V.trans al.V,hv.mv.trans al.mv,zCZ lo (c i).m,⟨λh hh=>by rw[hv.H];exact al.g h hh,ah⟩,ag⟩
  have af:=zXI hG (aq t K) be (ch.hv i t y) (ch.st i t y) (k:=λx=>(clsQ t<=1->HV D x)/\(2<=clsQ t->HV (c (i+1)) x)/\∀g,x.fr.get g=if t.o.dst=some g then(c (i+1)).fr.get g else D.fr.get g) λx h1 h2 h3=>⟨h1,h2,h3⟩
  refine zQ4 bc hG hm ho et (λdd bk=>?_) (aq t K) (bm t K) (bn t K) af hr λaw E2 w2 a2 N aj ad=>⟨λk F J A j hj=>?_,aw,E2,?_⟩
  .have h1:=QH.1 ao _ (List.mem_map_of_mem (f:=TOp.o) K);rw[et,zBJ,bk]at h1
   simpa[Qi]using h1
  .simp only[Bool.or_eq_true,beq_iff_eq]at J⊢;rcases J with J|rfl
   .exact .inl (R k F J A j hj)
   .rw[hd]at A;cases A;exact .inl (hpre j hj)
  .obtain⟨k1,k2,k3⟩:=N;have az:∀g,aw.fr.get g=frL c ts (λj=>L j||j==i) ts.length g:=λg=>by
    rw[k3 g];by_cases U:t.o.dst=some g
    .rw[if_pos U,zLY (i:=i+1) (λk q J l z e=>?_) ts.length (by omega)]
     .simp only[frL,y];rw[if_pos ⟨by simp,U⟩]
     .simp only[Bool.or_eq_true,beq_iff_eq]at z;rcases z with z|rfl
      .exact(later k q (by omega) l z).2 g U e
      .omega
    .rw[if_neg U,hf g];have:∀k,frL c ts L k g=frL c ts (λj=>L j||j==i) k g:=by
      intro k
      induction k with
      |zero=>rfl
      |succ k ih=>
       simp only[frL];cases htk:ts[k]? with
       |none=>exact ih
       |some q=>
        simp only[Bool.or_eq_true,beq_iff_eq];by_cases ar:k=i
        .subst ar;rw[y]at htk;cases htk;rw[if_neg λh=>U h.2,if_neg λh=>U h.2]
         exact ih
        .simp only[ar,or_false,ih]
     exact this _
   rcases Nat.lt_or_ge 1 (clsQ t)with h2|h1
   .obtain⟨ax,_⟩:=ae h2;refine⟨i+1,by omega,λb q l ab=>?_,k2 h2,az,aj,hat.trans ad⟩
    simp only[Bool.or_eq_true,beq_iff_eq]
    constructor
    .rintro (hLb|rfl)
     .have:=(hb b q l ab).1 hLb;omega
     .omega
    .intro bp;rcases Nat.lt_or_ge b i with h|h
     .have h3:=(S.b i t d y hd h2).2 b q h l ab;rw[Qa]at h3;exact .inl (hpre b h3)
     .exact .inr (by omega)
   .refine⟨M,hjc,λb q l ab=>?_,hv.trans (k1 h1),az,aj,hat.trans ad⟩
    simp only[Bool.or_eq_true,beq_iff_eq];have a8:b≠i:=by rintro rfl;rw[y]at l;cases l;omega
    simp only[a8,or_false];exact hb b q l ab
 .intro k F J;by_cases B:k<ops.size
  .simp[B]at J
  .simp[B]at J
 .by_cases B:k<ops.size
  .simp[B]at J
  .simp[B]at J
 .by_cases B:b<ops.size
  .simp[B]
  .simp[B]
 .have:∀k,frL c ts (λj=>(Array.replicate ops.size false).getD j false) k g=st.fr.get g:=by
   intro k
   induction k with
   |zero=>simp only[frL,h0]
   |succ k ih=>
    simp only[frL];split
    .rw[if_neg ?_]
     .exact ih
     .rintro ⟨h,_⟩
      by_cases B:k<ops.size
      .simp[B]at h
      .simp[B]at h
    .exact ih
  exact(this _).symm
end
section
variable{P:Program}{G:Cx}{nt:Nat}{E:Env}{w:World}{a:Act}{β:Nat->Option Nat}{st:Sta}
 {Z0 B0:Nat->Prop} {w0:World} {dl:List Deferred} {tb:TblS}
theorem SR.uW(U:GPP G)(s:SR G nt E w a β st){t sz:Nat}(N:st.fr.get t=some .qa):∃E' M,SR G nt E' w a M ⟨st.fr.put t (.sym st.mv),st.H,(st.mv,.vec sz [])::st.V,st.m,st.mv+1⟩/\Kp E.Z (BS E β st.H st.V) w E'.Z (BS E' M st.H ((st.mv,.vec sz [])::st.V)) w:=by
 have W:∀i,i<st.mv->(if i=st.mv then Value.slice none 0 0 else E.σ i)=E.σ i:=λi hi=>by
  have:i≠st.mv:=by omega
  simp[this]
 have B:∀{v:AV}{k:Value},CP st.mv st.m v->VR E w v k->VR ⟨E.ρ,E.D,E.Z,λi=>if i=st.mv then .slice none 0 0 else E.σ i⟩ w v k:=λhc I=>
  VR.vG (E:=E) (E':=⟨E.ρ,E.D,E.Z,λi=>if i=st.mv then .slice none 0 0 else E.σ i⟩) (w:=w) (w':=w) (λh _ R=>⟨R,rfl⟩) (λb hb=>⟨hb,rfl⟩) (.refl w) W I hc
 have f:∀j d,st.V.get j=some d->j≠st.mv:=λj d h=>by have:=(s.qW j d h).1;omega
 refine⟨⟨E.ρ,E.D,E.Z,λi=>if i=st.mv then .slice none 0 0 else E.σ i⟩,λj=>if j=st.mv then none else β j,⟨⟨s.hr.nodup,s.hr.qy,s.hr.inj,λp K=>?_,s.hr.nz,s.hr.wi⟩,⟨s.hf.size,λu v hu=>?_⟩,λg u y=>⟨B (U g u y).cp (s.hg g u y).1,(s.hg g u y).2⟩,s.qy,λu v hu=>?_,s.cH.mono (QV _) (QB _),λj d h=>?_,λj o i off h=>?_,λj d b h Q hb=>?_,λj J d l b h1 h2 h3 h4 z F=>?_⟩,?_⟩
 .obtain⟨str,Y,e,A⟩:=s.cH p K;have:=s.hr.obj p K;rw[e]at this⊢;exact OR.vG rfl (λhc I=>B hc I) A this
 .rw[Fr.qu]at hu;split at hu
  .rename_i e;subst e;cases hu;have O:∀{k:Value},VR E w .qa k->k=.slice none 0 0:=λh=>by cases h;rfl
   rw[O (s.hf.get _ _ N)];exact .sym _ _ (by simp only[if_true]) rfl
  .exact B (s.wa u v hu) (s.hf.get u v hu)
 .rw[Fr.qu]at hu;split at hu
  .cases hu;exact .sym _ (QS _)
  .exact(s.wa u v hu).mono (QV _) (QB _)
 .rw[Vecs.qi]at h;split at h
  .rename_i e;subst e;cases h;exact⟨QS _,λe X=>(by cases X),.inl ⟨by simp,by simp,rfl⟩⟩
  .have h1:=s.qW j d h;refine⟨Nat.lt_succ_of_lt h1.1,h1.2.mono (by simp[f j d h]) (λ_=>by simp[f j d h]) (λb _ _=>rfl) (λb hb=>⟨hb,rfl⟩) (.refl w) λo i off e sz S n=>?_⟩
   subst e;have:=s.vp j o i off h;rw[Vecs.qi,if_neg (by omega)]at n
   have q:o≠st.mv:=by omega
   exact⟨by simp[q],S,n,rfl⟩
 .rw[Vecs.qi]at h;split at h
  .cases h
  .exact Nat.lt_succ_of_lt (s.vp j o i off h)
 .rw[Vecs.qi]at h;split at h
  .rename_i e;subst e;simp at hb
  .simp only[if_neg (f j d h)]at hb;exact s.bz j d b h Q hb
 .rw[Vecs.qi]at h1 h2;split at h1
  .rename_i e;subst e;simp at z
  .split at h2
   .rename_i e;subst e;simp at F
   .simp only[if_neg (f j d h1)]at z;simp only[if_neg (f J l h2)]at F;exact s.qU j J d l b h1 h2 h3 h4 z F
 .refine Kp.less λx T=>?_
  rcases T with h|⟨j,d,h1,h2,h3⟩
  .exact .inl h
  .rw[Vecs.qi]at h1;split at h1
   .rename_i e;subst e;simp at h3
   .simp only[if_neg (f j d h1)]at h3;exact .inr ⟨j,d,h1,h2,h3⟩
theorem SR.jg(hG:GPP G)(s:SR G nt E w a β st){t j sz l:Nat}{es n:JE}(ht:st.fr.get t=some (.sym j))(D:st.V.get j=some (.vec sz es))(hl:l=es.length)(h0:1<=l)(hf:flatten sz es=some n):
  ∃E' β',SR G nt E' w a β' ⟨st.fr.put t (.row st.m 0 l sz 0 false),(st.m,.cells true n)::st.H,st.V.del j,st.m+1,st.mv⟩/\Kp E.Z (BS E β st.H st.V) w E'.Z (BS E' β' ((st.m,.cells true n)::st.H) (st.V.del j)) w:=by
 obtain⟨A,⟨_,_,rfl⟩|⟨b,str,M,cp,ex,v⟩⟩:=zFV s D
 .simp at hl;omega
 have y:n=M.take (es.length*sz):=by
  have:=v.uH;rw[hf]at this;exact Qt this
 have R:OR E w b (.cells true n):=by
  obtain⟨c,e,f,h1,h2,h3,h4⟩:=v.je;refine⟨c,e,f,h1,by rw[y,Qj];omega,h3.imp id λh=>⟨rfl,h.2⟩,λi x z=>h4 i x ?_⟩
  rw[y,List.getElem?_take]at z;split at z
  .exact z
  .cases z
 have B:zHQ w b l sz 0 false (E.σ j):=by
  rcases v.row with⟨a,_,h,_⟩|⟨cap,h1,h2,h3,h4,X,h6,h7⟩
  .omega
  .exact .inr ⟨cap,by rw[h1,hl],by omega,h3,h4,QN _,λh=>(by cases h),h7⟩
 have K:=s.bz j _ b D rfl v.hb;have O:∀q T,(some (b,HO.cells true n):XB)=some (q,T)->OR E w q T/\¬E.Z q/\∀p∈st.H,E.ρ p.1≠q:=λq T e=>by
  cases e;exact⟨R,K⟩
 have J:∀c∈n,PP c:=λc hc=>v.pc c (QO (y▸hc))
 have hm:∀{x:AV}{W:Value},VR E w x W->VR (zAX E st.m (some (b,.cells true n))) w x W:=λh=>zJz s h
 have F:∀p∈st.H,p.1≠st.m:=λp d e=>by have:=s.qy _ (s.hr.qy p d);omega
 have hρ:∀p∈st.H,(zAX E st.m (some (b,.cells true n))).ρ p.1=E.ρ p.1:=λp d=>if_neg (F p d)
 have gd:∀{i o},(st.V.del j).get i=some o->j≠i/\st.V.get i=some o:=λ{i o} h=>by
  rw[Vecs.qR]at h;split at h
  .cases h
  .rename_i I;exact⟨I,h⟩
 refine⟨zAX E st.m (some (b,.cells true n)),β,⟨zWH s O,zCa s ht (B.vr (by simp[zAX]) (.inr rfl)),λg u U=>⟨hm (s.hg g u U).1,(s.hg g u U).2⟩,λh Q=>?_,λu x hu=>?_,λp d=>?_,λi o h=>?_,λi j2 k off h=>s.vp i j2 k off (gd h).2,λi o q h Y hb=>?_,λi i' o N q h1 h2 h3 h4 X h6=>s.qU i i' o N q (gd h1).2 (gd h2).2 h3 h4 X h6⟩,Kp.less λx z=>?_⟩
 .rcases Q with Q|rfl
  .exact Nat.lt_succ_of_lt (s.qy h Q)
  .exact QS _
 .rw[Fr.qu]at hu;split at hu
  .cases hu;exact .row _ _ _ _ _ _ (QS _)
  .exact(s.wa u x hu).mono (QB _) (QV _)
 .rcases QJ.1 d with rfl|d
  .exact⟨true,n,rfl,λc hc=>(J c hc).cp⟩
  .obtain⟨str,M,e,S⟩:=s.cH p d;exact⟨str,M,e,λc hc=>(S c hc).mono (QB _) (QV _)⟩
 .have h1:=s.qW i o (gd h).2;exact⟨h1.1,h1.2.mono rfl (λ_=>rfl) (λb _ _=>rfl) (λb hb=>⟨hb,rfl⟩) (.refl w) λj2 k off _ sz es A=>⟨rfl,es,(gd A).2,rfl⟩⟩
 .obtain⟨z1,z2⟩:=s.bz i o q (gd h).2 Y hb;refine⟨z1,λp d=>?_⟩
  rcases QJ.1 d with rfl|d
  .intro e;have e:(if st.m=st.m then b else E.ρ st.m)=q:=e
   rw[if_pos rfl]at e;subst e;exact(gd h).1 (s.qU j i _ _ b D (gd h).2 rfl Y v.hb hb)
  .rw[hρ p d];exact z2 p d
 .rcases z with⟨p,d,e⟩|⟨i,o,h1,h2,h3⟩
  .rcases QJ.1 d with rfl|d
   .have e:(if st.m=st.m then b else E.ρ st.m)=x:=e
    rw[if_pos rfl]at e;exact .inr ⟨j,_,D,rfl,by rw[←e];exact v.hb⟩
   .exact .inl ⟨p,d,by rw[←e,hρ p d]⟩
  .exact .inr ⟨i,o,(gd h1).2,h2,h3⟩
theorem SR.wE(h:GPP G)(s:SR G nt E w a β st){n:Nat}:∃E' b,SR G nt E' w a b (Sy.wE n st)/\Kp E.Z (BS E β st.H st.V) w E'.Z (BS E' b (Sy.wE n st).H (Sy.wE n st).V) w:=by
 unfold Sy.wE;split
 .rename_i e;split
  .rename_i f;split
   .rename_i hb;rw[QA]at hb;split
    .rename_i d;exact s.jg h e f (zb hb.1) (QM hb.2) d
    .exact⟨E,β,s,Kp.refl⟩
   .exact⟨E,β,s,Kp.refl⟩
  .exact⟨E,β,s,Kp.refl⟩
 .exact⟨E,β,s,Kp.refl⟩
theorem Rs.grow(b:GPP G):∀{g:JN}{E:Env}{st:Sta},Rs G nt Z0 B0 w0 dl E w a st->∃E',Rs G nt Z0 B0 w0 dl E' w a (zDk g st)
 |[],E,st,r=>⟨E,r⟩
 |(t,sz)::g,E,st,r=>by
  simp only[zDk];split
  .split
   .obtain⟨E',l⟩:=Rs.vL (d:=none) (v:=.qd []) (cv:=undef) (λn h=>by cases h) r
    exact Rs.grow b l
   .obtain⟨β,s,k,d⟩:=r.out;obtain⟨E',i,e,f⟩:=SR.wE b s;exact Rs.grow b ⟨i,e,k.trans f,d⟩
  .split
   .rename_i j;obtain⟨β,s,k,d⟩:=r.out;obtain⟨E',i,e,f⟩:=s.uW b j (sz:=sz);exact Rs.grow b ⟨i,e,k.trans f,d⟩
   .rename_i v _ o;split
    .rename_i h2 p j;obtain⟨β,s,k,d⟩:=r.out;obtain⟨E',i,e,f⟩:=s.uZ b o j;exact Rs.grow b ⟨i,e,k.trans f,d⟩
    .exact Rs.grow b r
   .exact Rs.grow b r
  .split
   .rename_i h _ _;obtain⟨β,s,k,d⟩:=r.out;obtain⟨_,E',i,e,f⟩:=SR.qE b (h:=h) (g:=[(Nat.mod t 1000,sz)]) s;exact Rs.grow b ⟨i,e,k.trans f,d⟩
   .exact Rs.grow b r
theorem Rs.cut(e:GPP G){c:Cut}{Q:Inv}(r:Rs G nt Z0 B0 w0 dl E w a st)(h:zTr c Q st):∃vs H V,Q vs H V/\∃b,Rs G nt Z0 B0 w0 dl b w a (mkW c vs H V):=by
 obtain⟨l,i⟩:=r.grow e (g:=c.grow);obtain⟨β,s,k,d⟩:=i.out;obtain⟨vs,H,V,h1,b,j,s1,f⟩:=zej e s h;exact⟨vs,H,V,h1,b,j,s1,k.trans f,d⟩
theorem zcv(U:TbW P G tb)(hG:GPP G)(hm:zAZ P G)(R:P.follows .mixedOrders=true){pn:JV}:∀(c:Code){B:TC}{gs:JV}{Q:Ext->Sta->Prop}{st:Sta}{QQ:Exit->Act->World->Prop},zN P c=some (er B)->zDZ nt (er B)=true->zDu B=true->tcH (HOK P G) B->tcN pn B=true->WT G tb B gs Q st->∀{E w a},Rs G nt Z0 B0 w0 dl E w a st →
  (∀x u E' w' A,Q x u->Rs G nt Z0 B0 w0 dl E' w' A u->At pn a A->QQ (zUY x) A w')->c.wp P QQ a w:=by
 intro c
 induction c with
 |skip=>
  intro B gs Q st QQ hc hd q v p h E w a r z;simp only[zN,QK]at hc;cases B<;>cases hc
  exact wp_skip (z .normal st E w a h r .refl)
 |label l=>
  intro B gs Q st QQ hc hd q v p h E w a r z;simp only[zN,QK]at hc;cases B<;>cases hc
  exact wp_label (z .normal st E w a h r .refl)
 |ret=>
  intro B gs Q st QQ hc hd q v p h E w a r z;simp only[zN,QK]at hc;cases B<;>cases hc
  exact wp_ret (z .ret st E w a h r .refl)
 |exit i=>
  intro B gs Q st QQ hc hd q v p h E w a r z;simp only[zN,QK]at hc;cases B<;>cases hc
  exact wp_exit (z (.exit i) st E w a h r .refl)
 |region id W draw=>
  intro B gs Q st QQ hc hd q v p h E w a r z;cases draw with
  |false=>
   simp only[zN,QK]at hc;cases B<;>simp only[er]at hc<;>first|(cases hc;done)|skip
   rename_i ts;injection hc with hc
   have ad:∀o∈W.toList,∀d,o.dst=some d->d<nt:=λo ho d aw=>by
    have hd:((ts.map TOp.o).all λo=>match o.dst with|some d=>Nat.blt d nt|none=>true)=true:=hd
    rw[←hc]at hd;have h1:=QH.1 hd _ (List.mem_map_of_mem (f:=zu P W) ho);rw[zBJ,aw]at h1
    simpa[Qi]using h1
   refine wp_region ?_
   have:=zSu U hG hm (Q:=QQ) (K:=Q .normal) ts W.toList 0 (λj=>by simp) hc.symm ad (λt D=>QH.1 q t D) v (λt D=>zNF (QH.1 p t D)) h r λu E' w' A h1 h2=>z .normal u E' w' A h1 h2
   rw[List.range_eq_range']
   simpa using this
  |true=>
   have aa:=hc;have:∃xs ds,zN P (.region id W true)=some (.draw xs ds):=by
    simp only[zN]at hc⊢;split at hc
    .split at hc
     .rename_i N e2;exact⟨_,_,rfl⟩
     .cases hc
    .cases hc
   obtain⟨xs,ds,e⟩:=this;rw[e]at hc;simp only[QK]at hc;cases B<;>simp only[er]at hc<;>first|(cases hc;done)|skip
   .rename_i ax ts ae;simp only[WT]at h;split at h
    .rename_i hD;rw[QA]at hD;simp only[tcN,QA]at p;have af:∀{t:Nat}{l:JV},inN t l=true->t∈l:=by
      intro t l
      induction l with
      |nil=>intro h;cases h
      |cons a r X=>
       intro h;simp only[inN]at h;split at h
       .rename_i e;rw[zb e];exact .head _
       .exact .tail _ (X h)
     exact zWj U hG hm R aa hd (λt D=>QH.1 q t D) (λt D=>zNF (QH.1 p.1 t D)) (λt D=>QH.1 hD.2 t (af (QH.1 p.2 t D))) hD.1 h r λu E' w' A h1 h2=>z .normal u E' w' A h1 h2
    .exact h.elim
   .rename_i ts ae;exact zVi U hG hm R aa hd (λt D=>QH.1 q t D) v (λt D=>zNF (QH.1 p t D)) h r λu E' w' A h1 h2=>z .normal u E' w' A h1 h2
   .rename_i ts ae;obtain⟨hq,lo,c,h0,aq,ar⟩:=h;exact zVl U hG hm R aa hd (λt D=>QH.1 q t D) v (λt D=>zNF (QH.1 p t D)) hq h0 aq r λE' w' A h2 h3=>z .normal _ E' w' A ar h2 h3
 |seq x y S T=>
  intro B gs Q st QQ hc hd q v p h E w a r z;simp only[zN]at hc;obtain⟨xa,ha,hc⟩:=za hc;obtain⟨xb,hb,hc⟩:=za hc;simp only[QK]at hc;cases B<;>simp only[er]at hc<;>first|(cases hc;done)|skip
  .rename_i ta M;injection hc with N e2
   subst N;subst e2;simp only[er,zDZ,QA]at hd;simp only[zDu,QA]at q;simp only[tcN,QA]at p;refine wp_seq (S ha hd.1 q.1 v.1 p.1 h r λx u E' w' A h1 h2 h3=>?_)
   cases x with
   |normal=>exact T hb hd.2 q.2 v.2 p.2 h1 h2 λx2 ac E2 w2 a2 q1 q2 q3=>z x2 ac E2 w2 a2 q1 q2 (h3.trans q3)
   |exit i=>exact z (.exit i) u E' w' A h1 h2 h3
   |ret=>exact z .ret u E' w' A h1 h2 h3
  .rename_i cc J ta M;injection hc with N e2
   subst N;subst e2;simp only[er,zDZ,QA]at hd;simp only[zDu,QA]at q;simp only[tcN,QA]at p;obtain⟨au,ao⟩:=h;refine wp_seq (S ha hd.1 q.1 v.1 p.1 au r λx u E' w' A h1 h2 h3=>?_)
   cases x with
   |normal=>
    obtain⟨vs,H,V,q1,E1,q2⟩:=h2.cut hG h1;exact T hb hd.2 q.2 v.2 p.2 (ao _ _ _ q1) q2 λx2 ac E2 w2 a2 r1 r2 r3=>z x2 ac E2 w2 a2 r1 r2 (h3.trans r3)
   |exit i=>exact z (.exit i) u E' w' A h1 h2 h3
   |ret=>exact z .ret u E' w' A h1 h2 h3
 |cond cv x y S T=>
  intro B gs Q st QQ hc hd q v p h E w a r z;simp only[zN]at hc;obtain⟨xv,hv,hc⟩:=za hc;obtain⟨xa,ha,hc⟩:=za hc;obtain⟨xb,hb,hc⟩:=za hc;simp only[QK]at hc;cases B<;>simp only[er]at hc<;>first|(cases hc;done)|skip
  rename_i cx ta M;injection hc with e0 N e2
  subst e0;subst N;subst e2;simp only[er,zDZ,QA]at hd;simp only[zDu,QA]at q;simp only[tcN,QA]at p;simp only[WT]at h;obtain⟨β,s,kp,df⟩:=r.out;split at h
  .rename_i cb ah;have F:=(zM s.hf s.hg hv ah).of_bool;split at h
   .rename_i n;have Y:st.fr.get n=some (.bool cb):=ah;unfold brT at h;rcases zDz h with⟨rfl,h2⟩|⟨rfl,h2⟩
    .exact wp_cond_true F (S ha hd.1 q.1 v.1 p.1 h2 (r.known Y) z)
    .exact wp_cond_false F (T hb hd.2 q.2 v.2 p.2 h2 (r.known Y) z)
   .rcases zDz h with⟨rfl,h2⟩|⟨rfl,h2⟩
    .exact wp_cond_true F (S ha hd.1 q.1 v.1 p.1 h2 r z)
    .exact wp_cond_false F (T hb hd.2 q.2 v.2 p.2 h2 r z)
  .exact h.elim
 |block i b X=>
  intro B gs Q st QQ hc hd q v p h E w a r z;simp only[zN]at hc;obtain⟨xb,hb,hc⟩:=za hc;simp only[QK]at hc;cases B<;>simp only[er]at hc<;>first|(cases hc;done)|skip
  rename_i j M;injection hc with e0 N
  subst e0;subst N;refine wp_block (X hb hd q v p h r λx u E' w' A h1 h2 h3=>?_)
  cases x with
  |normal=>exact z .normal u E' w' A h1 h2 h3
  |ret=>exact z .ret u E' w' A h1 h2 h3
  |exit j=>
   show(if j=i then QQ .normal A w' else QQ (.exit j) A w')
   simp only[zU3]at h1;split at h1
   .rename_i e;rw[if_pos (zb e)];exact z .normal u E' w' A h1 h2 h3
   .rename_i e;rw[if_neg (zAU e)];exact z (.exit j) u E' w' A h1 h2 h3
 |loop b X=>
  intro B gs Q st QQ hc hd q v p h E w a r z;simp only[zN]at hc;obtain⟨xb,hb,hc⟩:=za hc;simp only[QK]at hc;cases B<;>simp only[er]at hc<;>first|(cases hc;done)|skip
  .rename_i cc I M _;injection hc with N
   subst N;obtain⟨⟨n0,h0⟩,ab⟩:=h;obtain⟨aj,H0,V0,q1,E1,q2⟩:=r.cut hG h0;refine wp_loop_ghost (λn a1 w1=>∃vs H V E,I (n::gs) vs H V/\Rs G nt Z0 B0 w0 dl E w1 a1 (mkW cc vs H V)/\At pn a a1) n0 ⟨aj,H0,V0,E1,q1,q2,.refl⟩ ?_
   rintro n a1 w1 ⟨vs,H,V,E2,k1,k2,k3⟩
   refine X hb hd q v p (ab n _ _ _ k1) k2 λx u E' w' A h1 h2 h3=>?_
   cases x with
   |normal=>
    obtain⟨n',ak,ag⟩:=h1;obtain⟨ai,H',V',q1,E3,q2⟩:=h2.cut hG ag;exact⟨n',ak,ai,H',V',E3,q1,q2,k3.trans h3⟩
   |exit i=>exact z (.exit i) u E' w' A h1 h2 (k3.trans h3)
   |ret=>exact z .ret u E' w' A h1 h2 (k3.trans h3)
  .rename_i k M _;injection hc with N
   subst N;refine wp_loop_ghost (λn a1 w1=>∃st E,zQk (λn Q st=>WT G tb M (n::gs) Q st) Q n st/\Rs G nt Z0 B0 w0 dl E w1 a1 st/\At pn a a1) k ⟨st,E,h,r,.refl⟩ ?_
   rintro n a1 w1 ⟨st1,E1,k1,k2,k3⟩
   cases n with
   |zero=>exact k1.elim
   |succ n=>
    refine X hb hd q v p k1 k2 λx u E' w' A h1 h2 h3=>?_
    cases x with
    |normal=>exact⟨n,QS n,u,E',h1,h2,k3.trans h3⟩
    |exit i=>exact z (.exit i) u E' w' A h1 h2 (k3.trans h3)
    |ret=>exact z .ret u E' w' A h1 h2 (k3.trans h3)
 |scope b X=>
  intro B gs Q st QQ hc hd q v p h E w a r z;simp only[zN]at hc;have hb:=X (QQ:=λe a w=>QQ e a w/\∃x,e=zUY x) hc hd q v p h r λx u E' w' A h1 h2 h3=>⟨z x u E' w' A h1 h2 h3,x,rfl⟩
  intro b' k cs;obtain⟨e,a₁,w₁,⟨hq,x,rfl⟩,O⟩:=hb b' (.inScope b::k) cs;cases x with
  |normal=>exact⟨.normal,a₁,w₁,hq,.head step_scope (Steps.trans O (.one step_inScope))⟩
  |exit id=>exact⟨.exit id,a₁,w₁,hq,λk' hk=>.head step_scope (O k' (by simpa[exitTo]using hk))⟩
  |ret=>exact⟨.ret,a₁,w₁,hq,.of_steps (.one step_scope) O⟩
 |refuse ay=>
  intro B gs Q st QQ hc hd q v p h E w a r z;simp only[zN,QK]at hc;cases B<;>simp only[er]at hc<;>first|(cases hc;done)|skip
  injection hc with e0 N e2
  subst e0;exact h.elim
 |_=>
  intro B gs Q st QQ hc;simp[zN]at hc
theorem zcw{x y:Code}{z:XC}(h:zbs P x y=some z):∃p m i D j W f d e,z=.seq p (.w9 m i D j W f d e):=by
 unfold zbs at h;split at h
 .split at h
  .split at h
   .obtain⟨m,_,h⟩:=za h;obtain⟨b,_,h⟩:=za h;cases h;exact⟨_,_,_,_,_,_,_,_,_,rfl⟩
   .cases h
  .cases h
 .cases h
theorem zbI{f:TC}{m:XV}{h:Nat}{D:JV}{i W e:Nat}{d:List XOper}{b:XC}:er f≠.w9 m h D i W e d b:=by
 cases f<;>simp[er]
theorem zZf(A:TbW P G tb)(S:GPP G)(hm:zAZ P G)(q:P.follows .mixedOrders=true){pn:JV}:∀(c:Code){k:TC}{gs:JV}{Q:Ext->Sta->Prop}{st:Sta}{QQ:Exit->Act->World->Prop},zKG P c=some (er k)->zDZ nt (er k)=true->zDu k=true->tcH (HOK P G) k->tcN pn k=true->WT G tb k gs Q st->∀{E w a},Rs G nt Z0 B0 w0 dl E w a st →
  (∀x b E' w' l,Q x b->Rs G nt Z0 B0 w0 dl E' w' l b->At pn a l->QQ (zUY x) l w')->c.wp P QQ a w:=by
 intro c
 induction c with
 |seq x y v u=>
  intro k gs Q st QQ hc hd f j d h E w a r n;simp only[zKG]at hc;split at hc
  .rename_i z hz;simp only[QK]at hc;subst hc;obtain⟨p,m,it,D,en,W,aa,U,R,e⟩:=zcw hz;cases k<;>simp only[er]at e<;>first|(cases e;done)|skip
   .injection e with _ e2;exact(zbI e2).elim
   .injection e with _ e2;exact(zbI e2).elim
  obtain⟨xa,T,hc⟩:=za hc;obtain⟨xb,hb,hc⟩:=za hc;simp only[QK]at hc;cases k<;>simp only[er]at hc<;>first|(cases hc;done)|skip
  .rename_i ta I;injection hc with e1 e2
   subst e1;subst e2;simp only[er,zDZ,QA]at hd;simp only[zDu,QA]at f;simp only[tcN,QA]at d;refine wp_seq (v T hd.1 f.1 j.1 d.1 h r λx b E' w' l h1 h2 h3=>?_)
   cases x with
   |normal=>exact u hb hd.2 f.2 j.2 d.2 h1 h2 λK o F N a2 q1 O q3=>n K o F N a2 q1 O (h3.trans q3)
   |exit i=>exact n (.exit i) b E' w' l h1 h2 h3
   |ret=>exact n .ret b E' w' l h1 h2 h3
  .rename_i cc J ta I;injection hc with e1 e2
   subst e1;subst e2;simp only[er,zDZ,QA]at hd;simp only[zDu,QA]at f;simp only[tcN,QA]at d;obtain⟨B,M⟩:=h;refine wp_seq (v T hd.1 f.1 j.1 d.1 B r λx b E' w' l h1 h2 h3=>?_)
   cases x with
   |normal=>
    obtain⟨vs,H,V,q1,E1,O⟩:=h2.cut S h1;exact u hb hd.2 f.2 j.2 d.2 (M _ _ _ q1) O λK o F N a2 Y r2 X=>n K o F N a2 Y r2 (h3.trans X)
   |exit i=>exact n (.exit i) b E' w' l h1 h2 h3
   |ret=>exact n .ret b E' w' l h1 h2 h3
 |_=>
  intro k gs Q st QQ hc hd f j d h E w a r n;exact zcv A S hm q _ (by simpa only[zKG]using hc) hd f j d h r n
theorem zWm(s:SR G nt E w a β st):∀(d:Nat){v v':AV}{cv:Value},CP st.mv st.m v->VR E w v cv->zBm st.H st.V d v=some v'->VR (zBl E β st.H st.V) w v' cv/\PP v':=by
 have n:∀{v:AV}{cv:Value},PP v->VR E w v cv->VR (zBl E β st.H st.V) w v cv:=λhp l=>VR.pp (E:=E) (E':=zBl E β st.H st.V) (w:=w) (w':=w) (λb hb=>⟨.inl hb,rfl⟩) l hp
 intro d
 induction d with
 |zero=>intro v v' cv _ _ h;cases h
 |succ d X=>
  intro v v' cv K l h;have al:∀{F J:JE}{vs:JC},(∀e∈F,CP st.mv st.m e)->VRs E w F vs->zC (zBm st.H st.V d) F=some J->VRs (zBl E β st.H st.V) w J vs/\∀e∈J,PP e:=λ{F J vs} hc A T=>by
   obtain⟨m1,m2⟩:=zA1 T;have key:∀(i:Nat) y u,J[i]?=some y->vs[i]?=some u->VR (zBl E β st.H st.V) w y u/\PP y:=λi y u D hu=>by
    have hi:i<F.length:=by have:=(QC.1 D).1;omega
    have o:=QD hi;exact X (hc _ (QF o)) (A.2 i _ u o hu) (m2 i _ y o D)
   refine⟨⟨m1.trans A.1,λi y u D hu=>(key i y u D hu).1⟩,λe B=>?_⟩
   obtain⟨i,hi⟩:=List.getElem?_of_mem B;have O:i<vs.length:=by have:=(QC.1 hi).1;have:=A.1;omega
   exact(key i e _ hi (QD O)).2
  cases K with
  |sym j N=>
   simp only[zBm]at h;split at h
   .rename_i W es hV;cases h;have:frz st.H st.V 1 (.sym j)=some (.qf W es):=by simp only[frz,hV]
    exact⟨zEu s 1 (.sym j N) l this,.qf _ _ (zFV s hV).1⟩
   .cases h
  |agg cs hc=>
   simp only[zBm]at h;split at h
   .rename_i z p;cases h;obtain⟨vs,rfl,I,M⟩:=l.qY;obtain⟨g1,g2⟩:=al hc I p;exact⟨VR.qP g1 M,.agg _ g2⟩
   .cases h
  |qd cs hc=>
   simp only[zBm]at h;split at h
   .rename_i z p;cases h;obtain⟨vs,rfl,I⟩:=l.va;obtain⟨g1,g2⟩:=al hc I p;exact⟨VR.qG g1,.qd _ g2⟩
   .cases h
  |ptr hh off hk=>
   simp only[zBm]at h;split at h
   .rename_i str cs Y;split at h
    .rename_i z p;cases h;have q:=Heap.qj Y;have R:=s.hr.obj _ q;obtain⟨vs,I,M,k3⟩:=zNB R;obtain⟨_,_,e1,U⟩:=s.cH.get Y;cases e1;obtain⟨g1,g2⟩:=al U I p;refine⟨?_,.qc _ _ (.agg _ g2)⟩
     cases l with
     |ptr _ _ hd=>
      have:=VR.qc (E:=zBl E β st.H st.V) (w:=w) (.agg z) off (E.ρ hh) 0 (.agg vs.toArray) rfl (.inr (.inl ⟨_,q,rfl⟩)) (VR.qP (by simpa using g1) (λv l=>M v (by simpa using l))) (λj c N=>by
       rw[Qa];exact k3 j c (by simpa[Value.cells]using N))
      rw[Qa]at this;exact this
    .cases h
   .cases h
  |iface t u hu=>
   simp only[zBm]at h;split at h
   .rename_i u' Q;cases h;cases l with
    |iface _ _ cu S=>
     obtain⟨g1,g2⟩:=X hu S Q;exact⟨.iface _ _ cu g1,.iface _ _ g2⟩
   .cases h
  |func f x y ha hb=>
   simp only[zBm]at h;split at h
   .rename_i x' o;split at h
    .rename_i y' D;cases h;cases l with
     |func _ _ _ vf vc hf hc rf rc=>
      obtain⟨⟨g1,g2⟩,p1⟩:=al (vs:=vf.toList) ha ⟨by simpa using hf,λi x v o l=>rf i x v o (by simpa using l)⟩ o
      obtain⟨⟨g3,g4⟩,p2⟩:=al (vs:=vc.toList) hb ⟨by simpa using hc,λi x v o l=>rc i x v o (by simpa using l)⟩ D
      exact⟨.func _ _ _ vf vc (by simpa using g1) (by simpa using g3) (λi x v o l=>g2 i x v o (by simpa using l)) (λi x v o l=>g4 i x v o (by simpa using l)),.func _ _ _ p1 p2⟩
    .cases h
   .cases h
  |qc e off B=>cases h;exact⟨n (.qc _ _ B) l,.qc _ _ B⟩
  |qf W es B=>cases h;exact⟨n (.qf _ _ B) l,.qf _ _ B⟩
  |bool b=>cases h;exact⟨n (.bool _) l,.bool _⟩
  |int k m=>cases h;exact⟨n (.int _ _) l,.int _ _⟩
  |str s=>cases h;exact⟨n (.str _) l,.str _⟩
  |qo=>cases h;exact⟨n .qo l,.qo⟩
  |qa=>cases h;exact⟨n .qa l,.qa⟩
  |qn=>cases h;exact⟨n .qn l,.qn⟩
  |ql=>cases h;exact⟨n .ql l,.ql⟩
  |qe=>cases h;exact⟨n .qe l,.qe⟩
  |_=>cases h
theorem zK4{n k:Nat}:∀{i:Nat}{args:JE},(∀x∈args,CP n k x)->zDj n k (qI i args)
 |i,[],h,t,v,e=>by cases e
 |i,x::r,h,t,v,e=>by
  simp only[qI,Fr.get]at e;split at e
  .cases e;exact h _ (.head _)
  .exact zK4 (λy b=>h y (.tail _ b)) t v e
theorem zFb:∀h:TC,tcN [] h=true
 |.skip|.ret|.exit _=>rfl
 |.wC d=>by
  simp only[tcN,QH];intro t _;cases t.o.dst<;>rfl
 |.draw f d e=>by
  simp only[tcN,List.all_nil,QT,QH];intro t _;cases t.o.dst<;>rfl
 |.vh d e=>by
  simp only[tcN,QH];intro t _;cases t.o.dst<;>rfl
 |.qT d e=>by
  simp only[tcN,QH];intro t _;cases t.o.dst<;>rfl
 |.seq a b=>by simp only[tcN,zFb a,zFb b];rfl
 |.wo _ _ a b=>by simp only[tcN,zFb a,zFb b];rfl
 |.cond _ a b=>by simp only[tcN,zFb a,zFb b];rfl
 |.block _ b=>by simp only[tcN,zFb b]
 |.loop _ _ b=>by simp only[tcN,zFb b]
 |.qF _ b=>by simp only[tcN,zFb b]
theorem zfd{f:Nat}{xf:XF}{X:TC}(hx:FnX P f xf)(hb:xf.body=er X)(ar:zDu X=true)(hG:GPP G)(hm:zAZ P G)(ae:P.follows .mixedOrders=true)(au:TbW P G tb)(ax:tcH (HOK P G) X){args:JE}{v:AV}(Y:args.length=xf.np)(ai:∀x∈args,PP x)
  (h:WT G tb X [] (zP8 xf.res λu=>u=v) ⟨qI 0 args,[],[],0,0⟩):Enters P f/\∀H nx,FnT P G f args H nx v H nx:=by
 obtain⟨fn,ah,l,T⟩:=hx.ok;unfold compF at l;obtain⟨S,J,l⟩:=za l;obtain⟨xc,a6,l⟩:=za l;obtain⟨rs,az,l⟩:=za l;split at l
 rotate_left
 .cases l
 rename_i N;rw[QA]at N;simp only[QK]at l;subst l;simp only at hb Y h;subst hb;have a8:fn.params.size+fn.nfree<=fn.ntmps:=QM N.2;refine⟨⟨fn,S,ah,J,T⟩,λH nx E w k Q af hg ba=>?_⟩
 have a7:k.size=args.length:=by rw[af.1];simp
 have aj:∀{x:AV}{cx:Value},PP x->VR E w x cx->VR ⟨E.ρ,λ_=>False,E.Z,E.σ⟩ w x cx:=λo hv=>VR.pp (E:=E) (E':=⟨E.ρ,λ_=>False,E.Z,E.σ⟩) (w:=w) (w':=w) (λb hb=>⟨hb,rfl⟩) hv o
 have s0:SR G fn.ntmps ⟨E.ρ,λ_=>False,E.Z,E.σ⟩ w { tmps:=k++Array.replicate (fn.ntmps-k.size) undef,defers:=[] } (λ_=>none) ⟨qI 0 args,[],[],0,0⟩:=by
  refine⟨⟨.nil,λp o=>by simp at o,λp o=>by simp at o,λp o=>by simp at o,λp o=>by simp at o,Q.wi⟩,⟨?_,λt u ht=>?_⟩,λg u U=>⟨aj (hG g u U) (hg g u U).1,(hg g u U).2⟩,λh hh=>hh.elim,zK4 λx hx=>(ai x hx).cp,λp o=>(by cases o),λj vi O=>(by cases O),λj j2 i off O=>(by cases O),λj vi b O=>(by cases O),λj j' vi bb b O=>(by cases O)⟩
  .simp;omega
  .obtain⟨i,rfl,hi⟩:=zPb ht;obtain⟨W,h1,h2⟩:=af.getElem? hi;have h3:k[i]?=some W:=by simpa using h1
   have h4:=(Array.getElem?_eq_some_iff.1 h3).1;simp only[Qa];rw[Array.getD_eq_getD_getElem?,Array.getElem?_append_left h4,h3];exact aj (ai u (QF hi)) h2
 have r0:Rs G fn.ntmps E.Z (λ_=>False) w [] ⟨E.ρ,λ_=>False,E.Z,E.σ⟩ w { tmps:=k++Array.replicate (fn.ntmps-k.size) undef,defers:=[] } ⟨qI 0 args,[],[],0,0⟩:=by
  refine⟨_,s0,Kp.less λx hx=>?_,rfl⟩
  rcases hx with⟨p,o,_⟩|⟨j,vi,O,_⟩
  .cases o
  .cases O
 refine calls_of_wp ah J (zZf au hG hm ae S a6 N.1 ar ax (pn:=[]) (zFb X) h r0 λx d E' w' a' A r' _=>?_)
 obtain⟨β,s,K,df⟩:=r'.out;have fin:∀{x:Ext},(∀i,x≠.exit i)->zP8 rs (λu=>u=v) x d->a'.defers=[]/\∃ac,(results fn a'.tmps).run P w'=.ok ac w'/\∃W E',(Ending.returned ac)=.returned W/\HR E' H w'/\Tr E H w E' H w' nx nx/\VR E' w' v W:=by
  intro x ao A;have:∃F,zG3 d.H d.fr rs=some F/\(match zBm d.H d.V 8 (zBG F)with|some v'=>v'=v|none=>False):=by
   cases x with
   |exit i=>exact absurd rfl (ao i)
   |normal=>
    unfold zP8 zP7 at A;simp only at A;split at A
    .rename_i F I;exact⟨F,I,A⟩
    .exact A.elim
   |ret=>
    unfold zP8 zP7 at A;simp only at A;split at A
    .rename_i F I;exact⟨F,I,A⟩
    .exact A.elim
  obtain⟨F,I,A⟩:=this;obtain⟨W,e1,e2⟩:=zOv s.hr s.hf az I;split at A
  rotate_left
  .exact A.elim
  rename_i v' ay;subst A;have ak:CP d.mv d.m (zBG F):=by
   have ad:∀{rs:List XR}{F:JE},zG3 d.H d.fr rs=some F->∀u∈F,CP d.mv d.m u:=by
    intro rs
    induction rs with
    |nil=>intro F h u hu;cases h;cases hu
    |cons q qs ih=>
     intro F h u hu;simp only[zG3]at h;split at h
     .rename_i z B;split at h
      .rename_i zs aq;cases h;rcases QJ.1 hu with rfl|hu
       .cases q with
        |t n=>exact s.wa n _ B
        |cell n sz ag=>
         simp only[zUo]at B;split at B
         .rename_i ab aw;exact zRj s.cH (s.wa n ab aw) B
         .cases B
       .exact ih aq u hu
      .cases h
     .cases h
   have R:=ad I;cases F with
   |nil=>exact .qd _ λe he=>by cases he
   |cons u us=>
    cases us with
    |nil=>exact R u (.head _)
    |cons u2 us=>exact .qd _ R
  obtain⟨k1,k2⟩:=zWm s 8 ak e2 ay;have hZ:∀z,(zBl E' β d.H d.V).Z z->E.Z z\/w.heap.size<=z:=by
   rintro z (B|B)
   .rcases K.qS z B with h|h|h
    .exact .inl h
    .exact h.elim
    .exact .inr h
   .rcases K.own z B with h|h
    .exact h.elim
    .exact .inr h
  have aa:∀z,(zBl E' β d.H d.V).Z z->z<w'.heap.size:=by
   rintro b (hb|⟨p,o,rfl⟩|⟨j,vi,q1,q2,q3⟩)
   .exact s.hr.wi b hb
   .exact s.hr.lt o
   .exact(s.qW j vi q1).2.lt q2 q3
  have M:∀x,x<w.heap.size->w'.heap[x]? = w.heap[x]?:=λx hx=>K.qM x hx λh=>h
  refine⟨df,W,e1,W,⟨E.ρ,E.D,(zBl E' β d.H d.V).Z,E.σ⟩,rfl,⟨Q.nodup,Q.qy,Q.inj,λp o=>?_,λp o B=>?_,aa⟩,⟨QB _,λ_ _=>rfl,λh=>⟨.inl,λh=>h.elim id λ⟨x,y⟩=>by omega⟩,λz B=>.inl (K.qJ z B),λz B=>(hZ z B).imp id .inr,λp o=>.inl ⟨p,o,rfl⟩,K.tape,K.os,K.output,K.size,λx hx _=>M x hx,K.qp,rfl⟩,?_⟩
  .refine(Q.obj p o).mono (M _ (Q.lt o)) λhv=>?_
   exact VR.mono (E:=E) (E':=⟨E.ρ,E.D,(zBl E' β d.H d.V).Z,E.σ⟩) (λ_ h=>⟨h,rfl⟩) (λb hb=>⟨.inl (K.qJ b hb),M b (Q.wi b hb)⟩) K.qp hv
  .rcases hZ _ B with h|h
   .exact Q.nz p o h
   .have:=Q.lt o;have h:w.heap.size<=E.ρ p.1:=h;omega
  .exact VR.pp (E:=zBl E' β d.H d.V) (E':=⟨E.ρ,E.D,(zBl E' β d.H d.V).Z,E.σ⟩) (w:=w') (w':=w') (λb hb=>⟨hb,rfl⟩) k1 k2
 cases x with
 |normal=>exact fin (λi e=>by cases e) A
 |ret=>exact fin (λi e=>by cases e) A
 |exit i=>exact A.elim
end
section
variable{P:Program}{G:Cx}{tb:TblS}
theorem zPx{fr:Fr}:∀{pn:JV}{i0:Nat},zJl fr i0 pn=true->∀(j t:Nat),pn[j]?=some t->fr.get t=some (.ptr (i0+j) 0)
 |[],i0,h,j,t,e=>by simp at e
 |t0::r,i0,h,j,t,e=>by
  simp only[zJl,QA]at h;obtain⟨h1,h2⟩:=h;cases j with
  |zero=>
   simp only[List.getElem?_cons_zero,QK]at e;subst e;split at h1
   .rename_i hd b;rw[b,zb h1];rfl
   .cases h1
  |succ j=>
   have:=zPx h2 j t (by simpa using e)
   rw[this];congr 2;omega
theorem zWL{E:Env}{w:World}{h o:Nat}{cv:Value}(b:VR E w (.ptr h o) cv):cv=.pointer (some ⟨E.ρ h,o,none⟩):=by
 cases b;rfl
theorem zS6{n k:Nat}{H:Heap}{fr:Fr}(f:zDj n k fr)(j:HCP n k H):∀{rs:List XR}{vs:JE},zG3 H fr rs=some vs->∀u∈vs,CP n k u:=by
 intro rs
 induction rs with
 |nil=>intro vs h u hu;cases h;cases hu
 |cons q v l=>
  intro vs h u hu;simp only[zG3]at h;split at h
  .rename_i z b;split at h
   .rename_i o e;cases h;rcases QJ.1 hu with rfl|hu
    .cases q with
     |t n=>exact f n _ b
     |cell n p x=>
      simp only[zUo]at b;split at b
      .rename_i i d;exact zRj j (f n i d) b
      .cases b
    .exact l e u hu
   .cases h
  .cases h
theorem zRq{n k:Nat}{vs:JE}(h:∀u∈vs,CP n k u):CP n k (zBG vs):=by
 cases vs with
 |nil=>exact .qd _ λe d=>by cases d
 |cons u b=>
  cases b with
  |nil=>exact h u (.head _)
  |cons f b=>exact .qd _ h
theorem zen{f:Nat}{xf:XF}{S:TC}(hx:FnX P f xf)(hb:xf.body=er S)(ah:zDu S=true)(hG:GPP G)(hm:zAZ P G)(aa:P.follows .mixedOrders=true)(ai:TbW P G tb)(aq:tcH (HOK P G) S){gr:JN}{pn:JV}(ax:tcN pn S=true)
  {args:JE} {H:Heap} {V:Vecs} {v:AV} {H2:Heap} {V2:Vecs} (U:args.length=xf.np) (ao:pn.length=H.length) (ay:zJl (qI 0 args) 0 pn=true)
  (h:WT G tb S [] (zXC gr xf.res pn λu H' V'=>u=v/\H'=H2/\V'=V2) ⟨qI 0 args,H,V,H.length,V.length⟩):Enters P f/\HFn P G f args H V v H2 V2:=by
 obtain⟨fn,ac,k,O⟩:=hx.ok;unfold compF at k;obtain⟨J,y,k⟩:=za k;obtain⟨xc,az,k⟩:=za k;obtain⟨rs,au,k⟩:=za k;split at k
 rotate_left
 .cases k
 rename_i A;rw[QA]at A;simp only[QK]at k;subst k;simp only at hb U h;subst hb;have a8:fn.params.size+fn.nfree<=fn.ntmps:=QM A.2;refine⟨⟨fn,J,ac,y,O⟩,λE w β d s ab ae=>?_⟩
 have a7:d.size=args.length:=by rw[ab.1];simp
 have I:FrR E w (qI 0 args) { tmps:=d++Array.replicate (fn.ntmps-d.size) undef,defers:=[] } fn.ntmps:=by
  refine⟨?_,λt u ht=>?_⟩
  .simp;omega
  .obtain⟨i,rfl,hi⟩:=zPb ht;obtain⟨B,h1,h2⟩:=ab.getElem? hi;have h3:d[i]?=some B:=by simpa using h1
   have h4:=(Array.getElem?_eq_some_iff.1 h3).1;simp only[Qa];rw[Array.getD_eq_getD_getElem?,Array.getElem?_append_left h4,h3];exact h2
 have s0:SR G fn.ntmps E w { tmps:=d++Array.replicate (fn.ntmps-d.size) undef,defers:=[] } β ⟨qI 0 args,H,V,H.length,V.length⟩:=
  ⟨s.hr,I,s.hg,s.qy,zK4 ae,s.cH,s.qW,s.vp,s.bz,s.qU⟩
 have r0:Rs G fn.ntmps E.Z (BS E β H V) w [] E w { tmps:=d++Array.replicate (fn.ntmps-d.size) undef,defers:=[] } ⟨qI 0 args,H,V,H.length,V.length⟩:=⟨β,s0,Kp.refl,rfl⟩;refine calls_of_wp ac y (zZf ai hG hm aa J az A.1 ah aq ax h r0 λx T a6 w' a' l aj ar=>?_)
 obtain⟨E',r'⟩:=Rs.grow hG (g:=gr) aj;unfold zXC at l;generalize zDk gr T=j at *;obtain⟨β',F,kp,df⟩:=r'.out;have fin:∀{x:Ext},(∀i,x≠.exit i)->zOk rs pn (λu H' V'=>u=v/\H'=H2/\V'=V2) x j->a'.defers=[]/\∃Y,(results fn a'.tmps).run P w'=.ok Y w' ∧
   ∃B E' β',(Ending.returned Y)=.returned B/\VR E' w' v B/\(∀p∈H2,p.1<H.length->E'.ρ p.1=E.ρ p.1)/\SR G 0 E' w' { tmps:=#[],defers:=[] } β' ⟨[],H2,V2,H2.length,V2.length⟩/\Kp E.Z (BS E β H V) w E'.Z (BS E' β' H2 V2) w':=by
  intro x af l;have:∃o,zG3 j.H j.fr rs=some o/\(match zbt (zBG o)with
    |false=>match zCC 8 (zBG o)||!zJl j.fr 0 pn with
     |false=>zC7 (List.range pn.length) (zDy j.H (List.range pn.length) []) [] j λ_ H V=>(zBG o)=v/\H=H2/\V=V2
     |true=>False
    |true=>match zJl j.fr 0 pn with
     |true=>zC7 (List.range pn.length++zQi pn.length (zBG o)) (zDy j.H (List.range pn.length++zQi pn.length (zBG o)) (zHt 8 (zBG o) [])) [zBG o] j λus H V=>match us with
      |[u]=>u=v/\H=H2/\V=V2
      |_=>False
     |false=>False):=by
   cases x with
   |exit i=>exact absurd rfl (af i)
   |normal=>
    unfold zOk zP7 at l;simp only at l;split at l
    .rename_i o q;exact⟨o,q,l⟩
    .exact l.elim
   |ret=>
    unfold zOk zP7 at l;simp only at l;split at l
    .rename_i o q;exact⟨o,q,l⟩
    .exact l.elim
  obtain⟨o,q,l⟩:=this;obtain⟨B,e1,e2⟩:=zOv F.hr F.hf au q;have K:∀{hm nw:JV}{sm:JV}{H3:Heap}{V3:Vecs},zJl j.fr 0 pn=true->hm=List.range pn.length++nw->CanV hm sm j H3 V3->∀p∈H3,p.1<H.length->(zAc E' hm sm).ρ p.1=E.ρ p.1:=λ{hm nw sm H3 V3} n aw cn p hp D=>by
   subst aw;rw[←ao]at D;have R:=QD D;have f1:=zWL (I.get _ _ (zPx ay p.1 _ R));have f2:=zWL (F.hf.get _ _ (zPx n p.1 _ R));have f3:=ar _ (QF R);rw[f1,f2]at f3;simp only[Qa,Value.pointer.injEq,QK,Addr.mk.injEq,and_true]at f3;show E'.ρ ((List.range pn.length++nw).getD p.1 0)=E.ρ p.1
   rw[List.getD_eq_getElem?_getD,Qy (by rw[List.length_range];exact D),List.getElem?_range D]
   exact f3
  split at l
  .split at l
   rotate_left
   .exact l.elim
   rename_i z;rw[Bool.or_eq_false_iff]at z;obtain⟨hh,n⟩:=z;simp only[Bool.not_eq_false']at n;obtain⟨ag,H3,V3,⟨q1,q2,q3⟩,cn,_,_,_,N,Q⟩:=zLW hG F (vs0:=[]) (cvs:=[]) (λv hv=>by cases hv) ⟨rfl,λi x u hx=>by simp at hx⟩ l
   subst q2;subst q3;have W:PP v:=q1▸zKL 8 (zRq (zS6 F.wa F.cH q)) hh
   rw[q1]at e2;exact⟨df,B,e1,B,_,_,rfl,VR.pp (E:=E') (E':=zAc E' _ _) (w:=w') (w':=w') (λb hb=>⟨hb,rfl⟩) e2 W,K n (Qk _).symm cn,N 0 { tmps:=#[],defers:=[] } [] ⟨rfl,λt v h=>by cases h⟩ (λt v h=>by cases h),kp.trans Q⟩
  .split at l
   rotate_left
   .exact l.elim
   rename_i n;have ad:∀u∈[zBG o],CP j.mv j.m u:=λu hu=>by
    rw[QU.1 hu];exact zRq (zS6 F.wa F.cH q)
   have X:VRs E' w' [zBG o] [B]:=⟨rfl,λi x u hx hu=>by
    cases i with
    |zero=>cases hx;cases hu;exact e2
    |succ i=>simp at hx⟩
   obtain⟨ag,H3,V3,M,cn,_,ak,_,N,Q⟩:=zLW hG F ad X l;split at M
   rotate_left
   .exact M.elim
   rename_i u;obtain⟨rfl,rfl,rfl⟩:=M;exact⟨df,B,e1,B,_,_,rfl,ak.2 0 _ _ rfl rfl,K n rfl cn,N 0 { tmps:=#[],defers:=[] } [] ⟨rfl,λt v h=>by cases h⟩ (λt v h=>by cases h),kp.trans Q⟩
 cases x with
 |normal=>exact fin (λi e=>by cases e) l
 |ret=>exact fin (λi e=>by cases e) l
 |exit i=>exact l.elim
end
def zbu(β:Type):Type:=Option β
def gd{β:Type}(b:Bool)(x:Option β):Option β:=(match b with
 |true=>x
 |false=>none:zbu β)
def br{β:Type}(b:Bool)(x y:Option β):Option β:=(match b with
 |true=>x
 |false=>y:zbu β)
def bd{α β:Type}(o:Option α)(f:α->Option β):Option β:=(match o with
 |some a=>f a
 |none=>none:zbu β)
inductive D where
 |v (k:K)
 |hc (h:Nat) (str:Bool) (n:Nat)
 |vec (j sz:Nat)
 |mp (j:Nat)
 |uT (j:Nat) (es:List (AV×AV))
 |vn (j sz n:Nat)
abbrev DT(β:Type):List D->Type
 |[]=>Option β
 |.v .b::r=>Bool->DT β r
 |.v (.i _)::r=>Int->DT β r
 |.v .s::r=>List Nat->DT β r
 |.v (.l _)::r=>List AV->DT β r
 |.v .av::r=>AV->DT β r
 |.v (.c _)::r=>DT β r
 |.v (.agg _)::r=>DT β r
 |.v (.qd _)::r=>DT β r
 |.v (.ep _)::r=>DT β r
 |.v (.jc _)::r=>DT β r
 |.hc _ _ _::r=>DT β r
 |.vec _ _::r=>List AV->DT β r
 |.mp _::r=>List (AV×AV)->DT β r
 |.uT _ _::r=>DT β r
 |.vn _ _ _::r=>DT β r
def zQB:List (AV×AV)->JE
 |[]=>[]
 |(k,v)::r=>k::v::zQB r
def din{β:Type}:(f:Bool)->(ds:List D)->DT β ds->JE->Heap->Vecs->Option β
 |f,[],P,d,H,V=>match d with
  |[]=>match H with
   |[]=>match V with
    |[]=>P
    |_=>none
   |_=>none
  |_=>none
 |f,.v .b::r,P,d,H,V=>match d with
  |.bool b::d=>din f r (P b) d H V
  |_=>none
 |f,.v (.i k)::r,P,d,H,V=>match d with
  |.int J n::d=>match zFO k J with
   |true=>din f r (P n) d H V
   |false=>none
  |_=>none
 |f,.v .s::r,P,d,H,V=>match d with
  |.str s::d=>din f r (P s) d H V
  |_=>none
 |f,.v (.l A)::r,P,d,H,V=>match d with
  |.qf o p::d=>match Nat.beq A o with
   |true=>din f r (P p) d H V
   |false=>none
  |.qa::d=>match f with
   |true=>din f r (P []) d H V
   |false=>none
  |_=>none
 |f,.v .av::r,P,d,H,V=>match d with
  |v::d=>din f r (P v) d H V
  |_=>none
 |f,.v (.c v)::r,P,d,H,V=>match d with
  |u::d=>match wG 20 u v with
   |true=>din f r P d H V
   |false=>none
  |_=>none
 |f,.v (.agg n)::r,P,d,H,V=>match d with
  |.agg q::d=>match Nat.beq q.length n with
   |true=>din f r P (q++d) H V
   |false=>none
  |_=>none
 |f,.v (.qd n)::r,P,d,H,V=>match d with
  |.qd q::d=>match Nat.beq q.length n with
   |true=>din f r P (q++d) H V
   |false=>none
  |_=>none
 |f,.v (.ep off)::r,P,d,H,V=>match d with
  |.qc e y::d=>match Nat.beq off y with
   |true=>din f r P (e::d) H V
   |false=>none
  |_=>none
 |f,.v (.jc t)::r,P,d,H,V=>match d with
  |.iface F e::d=>match Nat.beq t F with
   |true=>din f r P (e::d) H V
   |false=>none
  |_=>none
 |f,.hc h str n::r,P,d,H,V=>match d with
  |[]=>match H with
   |(I,.cells z q)::H=>match Nat.beq h I&&str==z&&Nat.beq q.length n with
    |true=>din false r P q H V
    |false=>none
   |_=>none
  |_=>none
 |f,.vec j A::r,P,d,H,V=>match d with
  |[]=>match V with
   |(x,.vec o p)::V=>match Nat.beq j x&&Nat.beq A o with
    |true=>din false r (P p) [] H V
    |false=>none
   |_=>none
  |_=>none
 |f,.mp j::r,P,d,H,V=>match d with
  |[]=>match V with
   |(x,.mp p)::V=>match Nat.beq j x with
    |true=>din false r (P p) [] H V
    |false=>none
   |_=>none
  |_=>none
 |f,.uT j B::r,P,d,H,V=>match d with
  |[]=>match V with
   |(x,.mp p)::V=>match Nat.beq j x&&wG 20 (.agg (zQB p)) (.agg (zQB B))with
    |true=>din false r P [] H V
    |false=>none
   |_=>none
  |_=>none
 |f,.vn j A n::r,P,d,H,V=>match d with
  |[]=>match V with
   |(x,.vec o p)::V=>match Nat.beq j x&&(Nat.beq A o&&Nat.beq p.length n)with
    |true=>din false r P p H V
    |false=>none
   |_=>none
  |_=>none
def zFv{β:Type}:(ds:List D)->(JE->Heap->Vecs->Option β)->DT β ds
 |[],F=>F [] [] []
 |.v .b::r,F=>λb=>zFv r λd H V=>F (.bool b::d) H V
 |.v (.i k)::r,F=>λn=>zFv r λd H V=>F (.int k n::d) H V
 |.v .s::r,F=>λs=>zFv r λd H V=>F (.str s::d) H V
 |.v (.l o)::r,F=>λf=>zFv r λd H V=>F (.qf o f::d) H V
 |.v .av::r,F=>λv=>zFv r λd H V=>F (v::d) H V
 |.v (.c v)::r,F=>zFv r λd H V=>F (v::d) H V
 |.v (.agg n)::r,F=>zFv r λd H V=>F (.agg (d.take n)::d.drop n) H V
 |.v (.qd n)::r,F=>zFv r λd H V=>F (.qd (d.take n)::d.drop n) H V
 |.v (.ep off)::r,F=>zFv r λd H V=>match d with
  |e::d=>F (.qc e off::d) H V
  |[]=>none
 |.v (.jc t)::r,F=>zFv r λd H V=>match d with
  |e::d=>F (.iface t e::d) H V
  |[]=>none
 |.hc h str n::r,F=>zFv r λd H V=>F [] ((h,.cells str d)::H) V
 |.vec j o::r,F=>λf=>zFv r λd H V=>F d H ((j,.vec o f)::V)
 |.mp j::r,F=>λf=>zFv r λd H V=>F d H ((j,.mp f)::V)
 |.uT j f::r,F=>zFv r λd H V=>F d H ((j,.mp f)::V)
 |.vn j o n::r,F=>zFv r λd H V=>F [] H ((j,.vec o d)::V)
def dK{β:Type}(d:Bool)(b:List K)(o:JF)(f:DT β (b.map .v)):Option β:=match o with
 |some v=>din d (b.map .v) f [v] [] []
 |none=>none
def dko{β:Type}(b:List K)(k:AV->Option β):DT β (b.map .v):=zFv (b.map .v) λd _ _=>match d with
 |[v]=>k v
 |_=>none
def dD{β:Type}(b:Bool)(ds:List D)(o:Option (AV×Heap×Vecs))(f:DT β ds):Option β:=match o with
 |some (v,H,V)=>din b ds f [v] H V
 |none=>none
def ddo{β:Type}(ds:List D)(k:AV->Heap->Vecs->Option β):DT β ds:=zFv ds λb H V=>match b with
 |[v]=>k v H V
 |_=>none
abbrev TbF:=List (Nat×(JE->JF))
def zQn:TbF->Nat->Option (JE->JF)
 |[],_=>none
 |s::r,f=>match Nat.beq f s.1 with
  |true=>some s.2
  |false=>zQn r f
def zUu{β:Type}(d:Bool)(tb:TbF)(f:Nat)(args:JE)(b:List K)(k:AV->Option β):Option β:=
 match zQn tb f with
 |some g=>match b with
  |[]=>bd (g args) k
  |_=>dK d b (g args) (dko b k)
 |none=>none
def zUJ{β:Type}(b:Bool)(tb:TbF)(f:Nat)(args:JE)(d:List K)(st:Sta)(k:AV->Sta->Option β):Option β:=
 match args.any (zCC 8)with
 |false=>zUu b tb f args d λv=>k v st
 |true=>match zC (frz st.H st.V 8) args with
  |some args=>zUu b tb f args d λv=>match zBT 8 v with
   |true=>k v st
   |false=>none
  |none=>none
def zSv{β:Type}(n:Int)(lo hi:JF)(k:Int->Int->Option β):Option β:=
 match lo with
 |none=>match hi with
  |none=>k 0 n
  |some (.int _ h)=>gd (decide (0<=h/\h<=n)) (k 0 h)
  |_=>none
 |some (.int _ l)=>match hi with
  |none=>gd (decide (0<=l/\l<=n)) (k l n)
  |some (.int _ h)=>gd (decide (0<=l/\l<=h/\h<=n)) (k l h)
  |_=>none
 |_=>none
abbrev FXd{β:Type}(st:Sta)(x:Option Out)(k:AV->Sta->Option β):Option β:=match x with
 |some (v,H,m)=>k v ⟨st.fr,H,st.V,m,st.mv⟩
 |none=>none
def zMY{β:Type}(n:Int):Nat->(Nat->Option β)->Option β
 |0,_=>none
 |m+1,k=>br (decide (n=.ofNat m)) (k m) (zMY n m k)
def zgo:List K->Bool
 |[.qd 0]=>true
 |_=>false
def lkB{β:Type}(h:Bool)(e:List Kd)(d:AV):List (AV×AV)->(JF->Option β)->Option β
 |[],k=>k none
 |(j,v)::r,k=>match eqk h e d j with
  |some b=>br b (k (some v)) (lkB h e d r k)
  |none=>none
def zYj:AV->Option Bool
 |.qe=>some true
 |.iface _ _=>some false
 |_=>none
def fop{β:Type}(N:Bool)(G:Cx)(tb:TbF)(st:Sta)(o:XO)(A:List K)(k:AV->Sta->Option β):Option β:=
 match o with
 |.bin op x y=>match x.ev G st.fr with
  |some (.str a)=>match op with
   |.add=>match y.ev G st.fr with
    |some (.str b)=>gd (decide (a.length+b.length<=zh)) (k (.str (a++b)) st)
    |_=>none
   |op=>FXd st (xoS G zf st.fr st.H st.m (.bin op x y)) k
  |some (.int F a)=>match op with
   |.quo=>match y.ev G st.fr with
    |some (.int T b)=>match zFO F T with
     |true=>gd (decide (b≠0)) (k (.int F (wrapx F (a.tdiv b))) st)
     |false=>none
    |_=>none
   |.rem=>match y.ev G st.fr with
    |some (.int T b)=>match zFO F T with
     |true=>gd (decide (b≠0)) (k (.int F (a.tmod b)) st)
     |false=>none
    |_=>none
   |.shl=>match y.ev G st.fr with
    |some (.int _ b)=>gd (decide (0<=b)) (k (.int F (wrapx F (a*2 ^ (Min.min b.toNat F.bits)))) st)
    |_=>none
   |.shr=>match y.ev G st.fr with
    |some (.int _ b)=>gd (decide (0<=b)) (k (.int F (a.fdiv (2 ^ (Min.min b.toNat F.bits)))) st)
    |_=>none
   |op=>FXd st (xoS G zf st.fr st.H st.m (.bin op x y)) k
  |_=>none
 |.wG neg D x y=>match x.ev G st.fr with
  |some (.agg a)=>match y.ev G st.fr with
   |some (.agg b)=>match eqv D a b with
    |some r=>k (zCk neg r) st
    |none=>none
   |_=>none
  |_=>none
 |.pick c a b=>match c.ev G st.fr with
  |some (.bool Y)=>match c with
   |.t n=>br Y (match a.ev G st.fr with
     |some v=>k v ⟨st.fr.put n (.bool true),st.H,st.V,st.m,st.mv⟩
     |none=>none) (match b.ev G st.fr with
     |some v=>k v ⟨st.fr.put n (.bool false),st.H,st.V,st.m,st.mv⟩
     |none=>none)
   |_=>FXd st (xoS G zf st.fr st.H st.m (.pick c a b)) k
  |_=>none
 |.wW x i=>match x.ev G st.fr with
  |some (.str s)=>match i.ev G st.fr with
   |some (.int _ n)=>bd (ixN s n) λc=>k (.int .u8 (.ofNat c)) st
   |_=>none
  |_=>none
 |.wP x lo hi=>match x.ev G st.fr with
  |some (.str s)=>match evo G st.fr lo with
   |some lo=>match evo G st.fr hi with
    |some hi=>zSv (.ofNat s.length) lo hi λl h=>k (.str ((s.take h.toNat).drop l.toNat)) st
    |none=>none
   |none=>none
  |_=>none
 |.wA x lo hi W d=>match x.ev G st.fr with
  |some (.qf B q)=>match Nat.beq d B with
   |true=>match W with
    |none=>match evo G st.fr lo with
     |some lo=>match evo G st.fr hi with
      |some hi=>zSv (.ofNat q.length) lo hi λl h=>k (.qf d ((q.take h.toNat).drop l.toNat)) st
      |none=>none
     |none=>none
    |some _=>none
   |false=>none
  |some .qa=>FXd st (xoS G zf st.fr st.H st.m (.wA x lo hi W d)) k
  |_=>none
 |.qB x i d=>match x.ev G st.fr with
  |some (.qf B q)=>match Nat.beq d B with
   |true=>match i.ev G st.fr with
    |some (.int _ n)=>match zgo A with
     |true=>zMY n q.length λm=>bd q[m]? λv=>k (.qc v 0) st
     |false=>dK N A (ixN q n) (dko A λv=>k (.qc v 0) st)
    |_=>none
   |false=>none
  |some (.sym j)=>match st.V.get j with
   |some (.vec B q)=>match Nat.beq d B with
    |true=>match i.ev G st.fr with
     |some (.int _ n)=>gd (decide (0<=n/\n<.ofNat q.length)) (k (.sym st.mv) ⟨st.fr,st.H,(st.mv,.qX j n.toNat 0)::st.V,st.m,st.mv+1⟩)
     |_=>none
    |false=>none
   |_=>none
  |some (.row _ _ l _ _ _)=>match i.ev G st.fr with
   |some (.int D n)=>zMY n l λm=>FXd st (xoS G zf st.fr st.H st.m (.qB x (.c (.int D (.ofNat m))) d)) k
   |_=>none
  |_=>none
 |.wq x=>match x.ev G st.fr with
  |some (.sym j)=>match st.V.get j with
   |some (.vec _ q)=>k (.int .i64 (.ofNat q.length)) st
   |_=>none
  |_=>FXd st (xoS G zf st.fr st.H st.m (.wq x)) k
 |.load x d I=>match isC A,x.ev G st.fr with
  |true,some (.qc _ _)=>FXd st (xoS G zf st.fr st.H st.m (.load x d I)) k
  |true,_=>none
  |false,some (.sym p)=>match st.V.get p with
   |some (.qX j i off)=>match st.V.get j with
    |some (.vec _ q)=>dK N A (ldE q i off d I) (dko A λv=>k v st)
    |_=>none
   |_=>none
  |false,_=>FXd st (xoS G zf st.fr st.H st.m (.load x d I)) k
 |.qD x off=>match x.ev G st.fr with
  |some (.sym p)=>match st.V.get p with
   |some (.qX j i o)=>match st.V.get j with
    |some (.vec _ _)=>k (.sym st.mv) ⟨st.fr,st.H,(st.mv,.qX j i (o+off))::st.V,st.m,st.mv+1⟩
    |_=>none
   |_=>none
  |_=>FXd st (xoS G zf st.fr st.H st.m (.qD x off)) k
 |.store x y d=>match x.ev G st.fr with
  |some (.sym p)=>match st.V.get p with
   |some (.qX j i off)=>match st.V.get j with
    |some (.vec B q)=>match y.ev G st.fr with
     |some v=>match Nat.beq off 0&&Nat.beq d B&&ppS 12 v with
      |true=>match cellsOf v d with
       |some _=>k (.qd []) ⟨st.fr,st.H,(j,.vec B (q.set i v))::st.V.del j,st.m,st.mv⟩
       |none=>none
      |false=>none
     |none=>none
    |_=>none
   |_=>none
  |_=>FXd st (xoS G zf st.fr st.H st.m (.store x y d)) k
 |.vU x=>match x.ev G st.fr with
  |some (.str s)=>k (.sym st.mv) ⟨st.fr,st.H,(st.mv,.vec 1 (s.map λb=>.int .u8 (.ofNat b)))::st.V,st.m,st.mv+1⟩
  |_=>none
 |.vF x=>match x.ev G st.fr with
  |some (.sym j)=>match st.V.get j with
   |some (.vec d q)=>match Nat.beq d 1 with
    |true=>bd (zAr q) λs=>k (.str s) st
    |false=>none
   |_=>none
  |some (.qf d q)=>match Nat.beq d 1 with
   |true=>bd (zAr q) λs=>k (.str s) st
   |false=>none
  |some .qa=>k (.str []) st
  |_=>none
 |.qx len d z M=>match A with
  |[]=>match zBe G st.fr z M with
   |some U=>match Nat.beq U.length (len*d)with
    |true=>match zC6 d len U with
     |some q=>match q.all (ppS 12)with
      |true=>k (.sym st.mv) ⟨st.fr,st.H,(st.mv,.vec d q)::st.V,st.m,st.mv+1⟩
      |false=>none
     |none=>none
    |false=>none
   |none=>none
  |.c _::_=>match bsL G st.fr len d z M with
   |some q=>k (.qf d q) st
   |none=>none
  |_=>FXd st (xoS G zf st.fr st.H st.m (.qx len d z M)) k
 |.qN l c d bytes z=>match l.ev G st.fr with
  |some (.int _ n)=>match c.ev G st.fr with
   |some (.int _ c)=>match zC6 d 1 z,Nat.beq z.length d with
    |some [e],true=>gd (decide (0<=n/\n<=c/\c.toNat*bytes<=zc/\c.toNat<=zc))
     (k (.sym st.mv) ⟨st.fr,st.H,(st.mv,.vec d (List.replicate n.toNat e))::st.V,st.m,st.mv+1⟩)
    |_,_=>none
   |_=>none
  |_=>none
 |.append x y d bytes=>match zPg y with
  |true=>none
  |false=>match x.ev G st.fr with
   |some v=>match y.ev G st.fr with
    |some u=>match zBK st.H d u with
     |some O=>match zQh u||ppS 12 (.agg O)with
      |true=>match v with
       |.qa=>gd (decide (O.length*bytes<=zc)) (k (.sym st.mv) ⟨st.fr,st.H,(st.mv,.vec d O)::st.V,st.m,st.mv+1⟩)
       |.sym j=>match st.V.get j with
        |some (.vec B q)=>match Nat.beq d B with
         |true=>gd (decide ((q.length+O.length)*bytes<=zc/\q.length+O.length<=zc)) (k (.sym st.mv) ⟨st.fr,st.H,(st.mv,.vec d (q++O))::st.V.del j,st.m,st.mv+1⟩)
         |false=>none
        |_=>none
       |_=>none
      |false=>none
     |none=>none
    |none=>none
   |none=>none
 |.wg x i l s a=>match A with
  |[]=>FXd st (xoS G zf st.fr st.H st.m (.wg x i l s a)) k
  |_=>match i.ev G st.fr with
   |some (.int D n)=>zMY n l λm=>FXd st (xoS G zf st.fr st.H st.m (.wg x (.c (.int D (.ofNat m))) l s a)) k
   |_=>none
 |.qz x i l s=>match A with
  |[]=>FXd st (xoS G zf st.fr st.H st.m (.qz x i l s)) k
  |_=>match i.ev G st.fr with
   |some (.int D n)=>zMY n l λm=>FXd st (xoS G zf st.fr st.H st.m (.qz x (.c (.int D (.ofNat m))) l s)) k
   |_=>none
 |.wv=>k (.sym st.mv) ⟨st.fr,st.H,(st.mv,.mp [])::st.V,st.m,st.mv+1⟩
 |.lookup I D m x z ok=>match m.ev G st.fr with
  |some (.sym j)=>match st.V.get j with
   |some (.mp q)=>match x.ev G st.fr with
    |some J=>match zDC I D J with
     |true=>match A with
      |[]=>lkB I D J q λo=>k (match o with
       |some u=>lkV ok true u
       |none=>lkV ok false z) st
      |A=>dK N A (lkR ok z (zAE I D J q)) (dko A λv=>k v st)
     |false=>none
    |none=>none
   |_=>none
  |_=>none
 |.wR I D m x y=>match m.ev G st.fr with
  |some (.sym j)=>match st.V.get j with
   |some (.mp q)=>match x.ev G st.fr with
    |some J=>match y.ev G st.fr with
     |some u=>match zDC I D J&&ppS 12 J&&ppS 12 u with
      |true=>bd (zCm I D J u q) λS=>k (.qd []) ⟨st.fr,st.H,(j,.mp S)::st.V.del j,st.m,st.mv⟩
      |false=>none
     |none=>none
    |none=>none
   |_=>none
  |_=>none
 |.call f args=>match evs G st.fr args with
  |some R=>zUJ N tb f R A st k
  |none=>none
 |.qO f args=>match f.ev G st.fr with
  |some (.func (.func f) first Q)=>match evs G st.fr args with
   |some R=>zUJ N tb f (first++R++Q) A st k
   |none=>none
  |_=>none
 |.build z M=>match A with
  |[]=>FXd st (xoS G zf st.fr st.H st.m (.build z M)) k
  |A=>FXd st (xoS G zf st.fr st.H st.m (.build z M)) λv st=>dK N A (some v) (dko A λv=>k v st)
 |.vZ neg lit X x y=>match A with
  |[]=>FXd st (xoS G zf st.fr st.H st.m (.vZ neg lit X x y)) k
  |_::_=>match lit with
   |true=>match y.ev G st.fr with
    |some .qe=>match x.ev G st.fr with
     |some a=>bd (zYj a) λr=>k (zCk neg r) st
     |none=>none
    |_=>none
   |false=>none
 |.seq neg x y=>match A with
  |[]=>FXd st (xoS G zf st.fr st.H st.m (.seq neg x y)) k
  |_::_=>match y.ev G st.fr with
   |some .qa=>match x.ev G st.fr with
    |some (.qf _ q)=>gd (!q.isEmpty) (k (zCk neg false) st)
    |some .qa=>k (zCk neg true) st
    |_=>none
   |_=>none
 |.wM _|.beq _ _ _|.ui _ _ _|.ur _ _ _|.uq _ _ _|.un _ _|.conv _ _|.uB _|.vA _ _|.vB _ _|.vS _ _ _ _|.ext _ _
 |.box _ _|.alloc _|.qQ _|.w4 _|.w7 _|.min _ _|.max _ _|.wh _ _ _|.w8 _ _|.ug _ _ _ _=>FXd st (xoS G zf st.fr st.H st.m o) k
 |_=>none
structure FEnt where
 f:Nat
 grow:JN
 val:JE->Heap->Vecs->Option (AV×Heap×Vecs)
 ds:List D
structure FOp where
 o:XOper
 ks:List K
 h:Option (List D)
def q1(d:Nat)(o:XO):FOp:=⟨⟨some d,o,none⟩,[],none⟩
def q0(o:XO):FOp:=⟨⟨none,o,none⟩,[],none⟩
def qk(d:Nat)(b:List K)(o:XO):FOp:=⟨⟨some d,o,none⟩,b,none⟩
def qh(d:Nat)(ds:List D)(o:XO):FOp:=⟨⟨some d,o,none⟩,[],some ds⟩
abbrev TbH:=List FEnt
def zNG:TbH->Nat->Option FEnt
 |[],_=>none
 |s::r,f=>match Nat.beq f s.f with
  |true=>some s
  |false=>zNG r f
def zHZ{β:Type}(hm sm:JV)(vs:JE)(st:Sta)(k:JE->Heap->Vecs->Option β):Option β:=
 match zKX hm&&zKX sm with
 |true=>match zC (rnV hm sm 8) vs with
  |some vs=>match rnH st.H hm sm 0 hm with
   |some H=>match zLC st.V 0 sm with
    |some V=>k vs H V
    |none=>none
   |none=>none
  |none=>none
 |false=>none
def zQo{β:Type}(b:Nat)(vs:JE)(st:Sta)(F:JV->JV->Option β):Option β:=
 (λd=>F d (zDy st.H d (vs.foldl (λa v=>zHt 8 v a) []))) (zEX st.H 30 0 (vs.foldl (λa v=>hsA 8 v a) (List.range b)))
def zZg{β:Type}(c:Cut)(st:Sta)(k:JE->Heap->Vecs->Option β):Option β:=
 match zSo st.fr c.qI with
 |none=>none
 |some b=>zQo c.pins b st λd sm=>zHZ d sm b st k
def atJ{β:Type}(F:JE->Heap->Vecs->Option β)(vs:JE)(H:Heap)(V:Vecs):Option β:=F vs H V
def zP9{β:Type}(c:Cut)(F:JE->Heap->Vecs->Option β)(st:Sta):Option β:=zZg c (zDk c.grow st) (atJ F)
def zSw{β:Type}(e:FEnt)(ds:List D)(args:JE)(st:Sta)(k:AV->Sta->Option β):Option β:=
 (λst=>zQo 0 args st λd sm=>zHZ d sm args st λb H V=>dD true ds (e.val b H V) (ddo ds λv H2 V2=>
  k (zLT e.grow d st.m st.mv v) (zKl e.grow d sm st H2 V2))) (qL e.grow args st)
def zbv{β:Type}(st:Sta)(v:AV)(k:AV->Sta->Option β):Option β:=
 match zbH v with
 |true=>k (wD st.V v) (wy st)
 |false=>(λF=>(λb=>match frz b [] 8 v with
  |some d=>k d (vO F b st)
  |none=>none) (zGh F st.H)) (zEX st.H 30 0 (hsA 8 v []))
def ze4(ds:List D)(e:FEnt):List D:=match ds with
 |[]=>e.ds
 |.v (.qd 0)::.hc h s n::r=>e.ds.take 1++.hc h s n::r
 |ds=>ds
def zZh{β:Type}(G:Cx)(th:TbH)(ds:List D)(st:Sta)(o:XO)(k:AV->Sta->Option β):Option β:=match o with
 |.call f args=>match zNG th f with
  |some e=>match evs G st.fr args with
   |some d=>zSw e (ze4 ds e) d st k
   |none=>none
  |none=>none
 |.qO f args=>match f.ev G st.fr with
  |some (.func (.func f) first b)=>match zNG th f with
   |some e=>match evs G st.fr args with
    |some d=>zSw e (ze4 ds e) (first++d++b) st k
    |none=>none
   |none=>none
  |_=>none
 |_=>none
def zTv{β:Type}(G:Cx)(tb:TbF)(th:TbH)(st:Sta)(o:FOp)(k:AV->Sta->Option β):Option β:=match o.h with
 |none=>fop true G tb st o.o.op o.ks k
 |some b=>zZh G th b st o.o.op k
def zVZ{β:Type}(G:Cx)(tb:TbF)(th:TbH)(st:Sta)(o:FOp)(k:AV->Sta->Option β):Option β:=match zVX o.ks with
 |true=>zTv G tb th (wy st) ⟨o.o,o.ks.tail,o.h⟩ k
 |false=>match zTu o.h o.o.op with
  |true=>FXd st (xoS G zf st.fr st.H st.m o.o.op) λv st=>zbv st v k
  |false=>zTv G tb th st o k
def brF{β:Type}(t:Nat)(c:Bool)(st:Sta)(k:Bool->Sta->Option β):Option β:=
 br c (k true ⟨st.fr.put t (.bool true),st.H,st.V,st.m,st.mv⟩) (k false ⟨st.fr.put t (.bool false),st.H,st.V,st.m,st.mv⟩)
def zOl{β:Type}(G:Cx)(tb:TbF)(th:TbH):List FOp->(Sta->Option β)->Sta->Option β
 |[],k,st=>k st
 |o::r,k,st=>match o.o.guard with
  |none=>zVZ G tb th st o λv st=>zOl G tb th r k (st.put o.o.dst v)
  |some (t,b)=>match st.fr.get t with
   |some (.bool c)=>brF t c st λc st=>match c==b with
    |true=>zVZ G tb th st o λv st=>zOl G tb th r k (st.put o.o.dst v)
    |false=>zOl G tb th r k (st.put o.o.dst (.qd []))
   |some (.qd [])=>zOl G tb th r k (st.put o.o.dst (.qd []))
   |_=>none
def toQ(o:FOp):TOp:=⟨o.o,o.ks,o.h.map λ_=>[]⟩
def zV0{β:Type}(G:Cx)(tb:TbF)(th:TbH)(st:Sta)(o:FOp)(k:AV->Sta->Option β):Option β:=match Nat.ble (clsQ (toQ o)) 1 with
 |true=>zTv G tb th st o λv b=>match Nat.beq b.mv st.mv with
  |true=>k v b
  |false=>none
 |false=>zTv G tb th st o k
def loF(fr:Fr):List FOp->Option Nat
 |[]=>none
 |o::r=>match o.o.op with
  |.store (.t a) _ _=>match o.ks with
   |[]=>loF fr r
   |_=>match fr.get a with
    |some (.ptr h _)=>match loF fr r with
     |some l=>some (Min.min h l)
     |none=>some h
    |_=>loF fr r
  |_=>loF fr r
def okQ(lo:Option Nat)(G:Cx)(st:Sta)(o:FOp):Bool:=match clsQ (toQ o)with
 |1=>match lo with
  |none=>true
  |some l=>(zKi o.o.op.qb).all (λg=>match st.fr.get g with
   |some v=>ltH 12 l v
   |none=>true)&&zVY l st.H
 |2=>match o.o.op with
  |.store x _ _=>match lo with
   |some l=>match x.ev G st.fr with
    |some (.ptr h _)=>Nat.ble l h
    |_=>false
   |none=>false
  |_=>true
 |_=>true
def zJs{β:Type}(lo:Option Nat)(G:Cx)(tb:TbF)(th:TbH):List FOp->(Sta->Option β)->Sta->Option β
 |[],k,st=>k st
 |o::r,k,st=>match okQ lo G st o with
  |true=>match o.o.guard with
   |none=>zV0 G tb th st o λv st=>zJs lo G tb th r k (st.put o.o.dst v)
   |some (t,b)=>match st.fr.get t with
    |some (.bool c)=>brF t c st λc st=>match c==b with
     |true=>zV0 G tb th st o λv st=>zJs lo G tb th r k (st.put o.o.dst v)
     |false=>zJs lo G tb th r k (st.put o.o.dst (.qd []))
    |some (.qd [])=>zJs lo G tb th r k (st.put o.o.dst (.qd []))
    |_=>none
  |false=>none
def zV1{β:Type}(G:Cx)(tb:TbF)(st:Sta)(o:XO)(e:List K)(k:AV->Sta->Option β):Option β:=
 match o with
 |.vU _|.qN _ _ _ _ _|.append _ _ _ _|.wv|.wR _ _ _ _ _|.lookup _ _ _ _ _ _=>none
 |.qx len d z f=>FXd st (xoS G zf st.fr st.H st.m (.qx len d z f)) k
 |.vF x=>match x.ev G st.fr with
  |some (.row h off len d str cap)=>match content st.H 1 (.row h off len d str cap)with
   |some (_,i)=>bd (zAr i) λs=>k (.str s) st
   |none=>none
  |_=>none
 |o=>fop false G tb ⟨st.fr,st.H,[],st.m,st.mv⟩ o e λv b=>k v ⟨b.fr,b.H,st.V,b.m,b.mv⟩
def zKs{β:Type}(G:Cx)(tb:TbF):List FOp->(Sta->Option β)->Sta->Option β
 |[],k,st=>k st
 |o::r,k,st=>match o.o.guard with
  |none=>zV1 G tb st o.o.op o.ks λv st=>zKs G tb r k (st.put o.o.dst v)
  |some (t,b)=>match st.fr.get t with
   |some (.bool c)=>brF t c st λc st=>match c==b with
    |true=>zV1 G tb st o.o.op o.ks λv st=>zKs G tb r k (st.put o.o.dst v)
    |false=>zKs G tb r k (st.put o.o.dst (.qd []))
   |some (.qd [])=>zKs G tb r k (st.put o.o.dst (.qd []))
   |_=>none
inductive FC where
 |skip
 |ret
 |exit (i:Nat)
 |wC (ops:List FOp)
 |draw (pn:JV) (ops:List FOp) (ds:List XD)
 |qT (ops:List FOp) (ds:List XD)
 |seq (a b:FC)
 |cond (c:XV) (a b:FC)
 |block (i:Nat) (b:FC)
 |loop (id:Nat) (c:Cut) (b:FC)
 |qF (k:Nat) (b:FC)
 |wo (id:Nat) (c:Cut) (a b:FC)
def ef:FC->XC
 |.skip=>.skip
 |.ret=>.ret
 |.exit i=>.exit i
 |.wC d=>.wC (d.map FOp.o)
 |.draw _ d e=>.draw (d.map FOp.o) e
 |.qT d e=>.draw (d.map FOp.o) e
 |.seq a b=>.seq (ef a) (ef b)
 |.cond c a b=>.cond c (ef a) (ef b)
 |.block i b=>.block i (ef b)
 |.loop _ _ b=>.loop (ef b)
 |.qF _ b=>.loop (ef b)
 |.wo _ _ a b=>.seq (ef a) (ef b)
abbrev zGm{β:Type}(K:Ext->Sta->Option β)(k:Sta->Option β):Ext->Sta->Option β
 |.normal,st=>k st
 |.exit i,st=>K (.exit i) st
 |.ret,st=>K .ret st
abbrev zMZ{β:Type}(id:Nat)(K:Ext->Sta->Option β):Ext->Sta->Option β
 |.normal,st=>K .normal st
 |.exit i,st=>match Nat.beq i id with
  |true=>K .normal st
  |false=>K (.exit i) st
 |.ret,st=>K .ret st
def zUv{β:Type}(c:Cut)(K:Ext->Sta->Option β)(F:JE->Heap->Vecs->Option β):Ext->Sta->Option β
 |.normal,st=>zP9 c F st
 |.exit i,st=>K (.exit i) st
 |.ret,st=>K .ret st
def zLZ{β:Type}(B:(Ext->Sta->Option β)->Sta->Option β)(c:Cut)(K:Ext->Sta->Option β):Nat->JE->Heap->Vecs->Option β
 |0,_,_,_=>none
 |n+1,b,H,V=>B (zUv c K (zLZ B c K n)) (mkW c b H V)
noncomputable def FUEL:Nat:=Classical.choose (⟨1180591620717411303424,rfl⟩:∃n:Nat,n=1180591620717411303424)
theorem zH0:FUEL=1180591620717411303424:=Classical.choose_spec (⟨1180591620717411303424,rfl⟩:∃n:Nat,n=1180591620717411303424)
def zH1{β:Type}(B:(Ext->Sta->Option β)->Sta->Option β)(K:Ext->Sta->Option β):Nat->Sta->Option β
 |0,_=>none
 |n+1,st=>B (zGm K (zH1 B K n)) st
def FT{β:Type}(U:Nat)(G:Cx)(tb:TbF)(th:TbH):FC->(Ext->Sta->Option β)->Sta->Option β
 |.skip,K,st=>K .normal st
 |.ret,K,st=>K .ret st
 |.exit i,K,st=>K (.exit i) st
 |.wC d,K,st=>zOl G tb th d (K .normal) st
 |.draw j d e,K,st=>match zSp (d.map FOp.o) e&&j.all (zUs st.fr)with
  |true=>zKs G tb d (K .normal) st
  |false=>none
 |.qT d e,K,st=>match zIq (d.map toQ) e&&zJW 0 [] [] [] (d.map toQ) e with
  |true=>zJs (loF st.fr d) G tb th d (K .normal) st
  |false=>none
 |.seq a b,K,st=>FT U G tb th a (zGm K (FT U G tb th b K)) st
 |.cond c a b,K,st=>match c.ev G st.fr with
  |some (.bool f)=>match c with
   |.t n=>brF n f st λf st=>match f with
    |true=>FT U G tb th a K st
    |false=>FT U G tb th b K st
   |_=>br f (FT U G tb th a K st) (FT U G tb th b K st)
  |_=>none
 |.block i b,K,st=>FT U G tb th b (zMZ i K) st
 |.qF k b,K,st=>zH1 (FT U G tb th b) K k st
 |.loop _ c b,K,st=>zP9 c (zLZ (FT U G tb th b) c K U) st
 |.wo _ c a b,K,st=>FT U G tb th a (zGm K (zP9 c λh H V=>FT U G tb th b K (mkW c h H V))) st
def zJt(id:Nat):FC->Bool
 |.seq a b|.cond _ a b=>zJt id a||zJt id b
 |.block _ b=>zJt id b
 |.loop i _ b=>Nat.beq id i||zJt id b
 |.qF _ b=>zJt id b
 |.wo i _ a b=>Nat.beq id i||(zJt id a||zJt id b)
 |_=>false
def zLE{β:Type}(U:Nat)(G:Cx)(tb:TbF)(th:TbH)(id:Nat):FC->(Ext->Sta->Option β)->JV->JE->Heap->Vecs->Option β
 |.seq a b,K,d=>match zJt id a with
  |true=>zLE U G tb th id a (zGm K (FT U G tb th b K)) d
  |false=>zLE U G tb th id b K d
 |.cond _ a b,K,d=>match zJt id a with
  |true=>zLE U G tb th id a K d
  |false=>zLE U G tb th id b K d
 |.block i b,K,d=>zLE U G tb th id b (zMZ i K) d
 |.qF _ b,K,d=>match d with
  |[]=>λ_ _ _=>none
  |n::d=>zLE U G tb th id b (zGm K (zH1 (FT U G tb th b) K n)) d
 |.loop i c b,K,d=>match d with
  |[]=>λ_ _ _=>none
  |n::d=>match Nat.beq id i with
   |true=>atJ (zLZ (FT U G tb th b) c K n)
   |false=>zLE U G tb th id b (zUv c K (zLZ (FT U G tb th b) c K n)) d
 |.wo i c a b,K,d=>match Nat.beq id i with
  |true=>atJ λe H V=>FT U G tb th b K (mkW c e H V)
  |false=>match zJt id a with
   |true=>zLE U G tb th id a (zGm K (zP9 c λe H V=>FT U G tb th b K (mkW c e H V))) d
   |false=>zLE U G tb th id b K d
 |_,_,_=>λ_ _ _=>none
def zYk(b:List XR):Ext->Sta->JF
 |.exit _,_=>none
 |_,st=>match zG3 st.H st.fr b with
  |some d=>zBm st.H st.V 8 (zBG d)
  |none=>none
def zSx(n:Nat):AV->Bool
 |.sym j=>Nat.blt j n
 |v=>ppS 12 v
def zUw(n k:Nat):AV->Bool
 |.ptr i _=>Nat.blt i k
 |v=>zSx n v
def zbw(n k:Nat):AV->Bool
 |.qd l=>l.all (zUw n k)
 |v=>zUw n k v
def zRS(n:Nat):Heap->Bool
 |[]=>true
 |(_,.cells _ b)::r=>b.all (zSx n)&&zRS n r
 |_=>false
def zRT:Vecs->Bool
 |[]=>true
 |(_,o)::r=>o.qA&&zRT r
def zTw(d:List XR)(pn:JV):Ext->Sta->Option (AV×Heap×Vecs)
 |.exit _,_=>none
 |_,st=>match zG3 st.H st.fr d with
  |some b=>match zbt (zBG b)with
   |false=>match zCC 8 (zBG b)||!zJl st.fr 0 pn with
    |false=>zHZ (List.range pn.length) (zDy st.H (List.range pn.length) []) [] st λ_ H V=>match zRS V.length H&&zRT V with
     |true=>some (zBG b,H,V)
     |false=>none
    |true=>none
   |true=>match zJl st.fr 0 pn with
    |true=>zHZ (List.range pn.length++zQi pn.length (zBG b)) (zDy st.H (List.range pn.length++zQi pn.length (zBG b)) (zHt 8 (zBG b) [])) [zBG b] st λe H V=>match e with
     |[u]=>match zbw V.length H.length u&&(zRS V.length H&&zRT V)with
      |true=>some (u,H,V)
      |false=>none
     |_=>none
    |false=>none
  |none=>none
end Go.Sy
