/- A LIBRARY: WHAT A FUNCTION'S CODE RECKONS, AS A LEAN FUNCTION, AND THAT ITS WORD IS THE MODEL'S: part 5 of 6. No condition. -/
import Derived.Test.YtfiahaglhiijaaaGreatDoorFxD
set_option linter.unusedVariables false
set_option linter.unusedSimpArgs false
namespace Go.Sy
section
variable{β:Type}{P:Program}{U:Nat}{G:Cx}{tb:TbF}{th:TbH}{st:Sta}{r:β}
theorem zWc{th:TbH}{f:Nat}{e:FEnt}(h:zPW th f=some e):e∈th/\e.f=f:=by
 induction th with
 |nil=>cases h
 |cons s r a=>
  simp only[zPW]at h;split at h
  .rename_i q;cases h;exact⟨.head _,(zc q).symm⟩
  .exact⟨.tail _ (a h).1,(a h).2⟩
theorem zTn(w:TbW P G (tbS tb))(g:∀e∈th,FOK P G e)(m:GPP G){o:FOp}(a:zy o.o.op=true){k:AV->Sta->Option β}(s:CPS st)(h:zYr G tb th st o k=some r):∃v u p,Stp G tb st true k r (zDZ G (tbS tb) st (toT th o)) v u p:=by
 unfold zYr at h;unfold zDZ toT;split at h
 .rename_i n;simp only[n,Option.map_none];exact zVm w m a s h
 .rename_i D n;simp only[n,Option.map_some];unfold zbA at h;unfold zRh;split at h
  .rename_i f args c;simp only[c];split at h
   .rename_i e j;obtain⟨q,A⟩:=zWc j;simp only[zPX,j,Option.map_some];split at h
    .rename_i z l;simp only[l];have b:args.all zG=true:=by rw[c]at a;simp only[zy,XO.qb,zAm,QV]at a;exact a
     exact zUs (g e q) s (zId m s.fr b l) h
    .cases h
   .cases h
  .rename_i B args c;simp only[c];have b:zG B=true/\args.all zG=true:=by rw[c]at a;simp only[zy,XO.qb,zAm,List.all_append,Qb,List.all_nil,QV,qr]at a;exact a
   split at h
   .rename_i E first y i;simp only[i];split at h
    .rename_i e j;obtain⟨q,A⟩:=zWc j;simp only[zPX,j,Option.map_some];split at h
     .rename_i z l;simp only[l];refine zUs (g e q) s (λx d=>?_) h
      have t:=zAc m s.fr b.1 i;cases t with
      |func _ _ _ q1 C=>
       rcases QK.1 d with d|d
       .rcases QK.1 d with d|d
        .exact q1 x d
        .exact zId m s.fr b.2 l x d
       .exact C x d
     .cases h
    .cases h
   .cases h
  .cases h
theorem CPS.skip(s:CPS st){d:Option Nat}:CPS (st.put d (.qc [])):=s.qu (.qc _ λe a=>by cases a)
theorem CPS.vu{st:Sta}(s:CPS st)(F:JV):CPS (vu F (zIy F st.H) st):=by
 have e:HCP st.mv st.m (zIy F st.H):=λp a=>s.H p (zGV a).1
 refine⟨λt u d=>?_,λp a=>s.H p (zBO a).1,s.V,λp a=>s.lt p (zBO a).1⟩
 obtain⟨v,c,rfl⟩:=zOz d;have hc:=s.fr t v c;unfold zVI;split
 .exact hc
 .split
  .rename_i f b;exact(zSh e 8 hc b).cp
  .exact hc
theorem zcQ(f:TbW P G (tbS tb))(j:∀e∈th,FOK P G e)(t:GPP G){o:FOp}(c:zy o.o.op=true){k:AV->Sta->Option β}(s:CPS st)(h:zYs G tb th st o k=some r):∃v u b,Stp G tb st true k r (zOi G (tbS tb) st (toT th o)) v u b:=by
 unfold zYs at h;unfold zOi;have e:zVK (toT th o).h (toT th o).o.op=zVK o.h o.o.op:=by
  obtain⟨⟨d,op,g⟩,B,z⟩:=o;cases op<;>cases z<;>rfl
 rw[e];cases hf:zVK o.h o.o.op with
 |true=>
  rw[hf]at h;simp only at h⊢;have n:∀C,wop G (tbS tb) st o.o.op [] C->WXd st (xoS G zj st.fr st.H st.m o.o.op) C:=λC hc=>by
   cases ho:o.o.op<;>rw[ho]at hf hc<;>first|exact hc|cases hf
  have h:fop false G tb st o.o.op [] (λv st=>zdy st v k)=some r:=by
   cases ho:o.o.op<;>rw[ho]at hf h<;>first|exact h|cases hf
  obtain⟨v,u,b,q⟩:=zVm f t c s h;have A:=q.eq rfl;subst A;have hk:=q.k;unfold zdy at hk;split at hk
  .rename_i a;refine⟨_,_,_,hk,.refl _,λ_=>rfl,q.ve.wy q.cp,q.ve.wG,λC i=>n _ (q.w _ ?_),q.le⟩
   unfold zVJ;rw[a];exact i
  .rename_i a;simp only at hk;split at hk
   .rename_i l x;refine⟨l,l,_,hk,.refl _,λ_=>rfl,(zSh (λp y=>q.ve.H p (zGV y).1) 8 q.cp x).cp,q.ve.vu _,λC i=>n _ (q.w _ ?_),q.le⟩
    unfold zVJ;rw[a];simp only[x];exact i
   .cases hk
 |false=>
  rw[hf]at h;simp only at h⊢;exact zTn f j t c s h
theorem zOD(p:TbW P G (tbS tb))(n:∀e∈th,FOK P G e)(D:GPP G):∀{ops:List FOp}{k:Sta->Option β}{st:Sta},(∀o∈ops,zy o.o.op=true)->CPS st->zQv G tb th ops k st=some r →
  ∃a,k a=some r/\CPS a/\∀C:Sta->Prop,C a->zGQ G (tbS tb) (ops.map (toT th)) C st
 |[],k,st,_,s,h=>⟨st,h,s,λC d=>d⟩
 |o::ops,k,st,x,s,h=>by
  have j:∀B∈ops,zy B.o.op=true:=λB F=>x B (.tail _ F)
  have step:∀{st:Sta},CPS st->zYs G tb th st o (λv st=>zQv G tb th ops k (st.put o.o.dst v))=some r->∃a,k a=some r/\CPS a/\∀C:Sta->Prop,C a->zOi G (tbS tb) st (toT th o) λv st=>∃E,WK v E/\zGQ G (tbS tb) (ops.map (toT th)) C (st.put o.o.dst E):=λ{st} s h=>by
   obtain⟨v,u,st1,q⟩:=zcQ p n D (x o (.head _)) s h;obtain⟨a,h1,g,i⟩:=zOD p n D j (q.ve.qu q.cp) q.k;exact⟨a,h1,g,λC d=>q.w _ ⟨u,q.vS,i C d⟩⟩
  have skip:∀{st:Sta},CPS st->zQv G tb th ops k (st.put o.o.dst (.qc []))=some r->∃a,k a=some r/\CPS a/\∀C:Sta->Prop,C a->zGQ G (tbS tb) (ops.map (toT th)) C (st.put o.o.dst (.qc [])):=λ{st} s h=>zOD p n D j s.skip h
  simp only[zQv]at h;split at h
  .rename_i y;obtain⟨a,h1,g,i⟩:=step s h;refine⟨a,h1,g,λC d=>?_⟩
   have f:(toT th o).o.guard=none:=y;simp only[Qe,zGQ,f];exact i C d
  .rename_i t b y;have f:(toT th o).o.guard=some (t,b):=y;split at h
   .rename_i c hc;have h:=zNP h;have A:=qp hc;simp only[A]at h;have z:(⟨st.fr,st.H,st.V,st.m,st.mv⟩:Sta)=st:=rfl;rw[z]at h;split at h
    .rename_i l;obtain⟨a,h1,g,i⟩:=step s h;refine⟨a,h1,g,λC d=>?_⟩
     simp only[Qe,zGQ,f,hc];unfold brT;have:=i C d;cases c<;>(simp only[Br,A,l];exact this)
    .rename_i l;obtain⟨a,h1,g,i⟩:=skip s h;refine⟨a,h1,g,λC d=>?_⟩
     simp only[Qe,zGQ,f,hc];unfold brT;have:=i C d;cases c<;>(simp only[Br,A,l];exact this)
   .rename_i hc;obtain⟨a,h1,g,i⟩:=skip s h;refine⟨a,h1,g,λC d=>?_⟩
    simp only[Qe,zGQ,f,hc];exact i C d
   .cases h
theorem zcR(g:TbW P G (tbS tb))(i:GPP G){o:XO}{c:List K}(b:zy o=true){k:AV->Sta->Option β}(s:CPS st)(h:zYu G tb st o c k=some r):∃v a,k v a=some r/\CP a.mv a.m v/\CPS a/\∀C:AV->Sta->Prop,C v a->zEl G (tbS tb) st o c C:=by
 have z:CPS ⟨st.fr,st.H,[],st.m,st.mv⟩:=⟨s.fr,s.H,λj f h=>(by cases h),s.lt⟩
 have gen:fop false G tb ⟨st.fr,st.H,[],st.m,st.mv⟩ o c (λv a=>k v ⟨a.fr,a.H,st.V,a.m,a.mv⟩)=some r->∃v a,k v a=some r/\CP a.mv a.m v/\CPS a/\∀C:AV->Sta->Prop,C v a->wop G (tbS tb) ⟨st.fr,st.H,[],st.m,st.mv⟩ o c (λv a=>C v ⟨a.fr,a.H,st.V,a.m,a.mv⟩):=λh=>by
  obtain⟨v,u,a,q⟩:=zVm g i b z h;have:=q.eq rfl;subst this;exact⟨u,_,q.k,q.cp,⟨q.ve.fr,q.ve.H,λj f l=>⟨Qf (s.V j f l).1 q.le,(s.V j f l).2⟩,q.ve.lt⟩,λC d=>q.w _ d⟩
 cases o<;>first|(cases h;done)|exact gen h|skip
 case vj x=>
  simp only[zYu]at h;split at h
  .rename_i B;split at h
   .rename_i y hc;cases hb:zBw y with
    |none=>rw[hb]at h;cases h
    |some t=>
     rw[hb]at h;exact⟨.str t,st,h,.str _,s,λC d=>by simp only[zEl];unfold WXd;simp only[xoS,B,hc,hb];exact d⟩
   .cases h
  .cases h
 have h:FXd st (xoS G zj st.fr st.H st.m _) k=some r:=h;unfold FXd at h;split at h
 .rename_i v H m e;obtain⟨h1,n⟩:=zRi (by rfl) b i s.fr s.H e
  obtain⟨A,p⟩:=zUm (by rfl) s.lt e
  exact⟨v,_,h,h1,⟨s.fr.mono (QA _) p,n,s.V,A⟩,λC hc=>by simp only[zEl];unfold WXd;simp only[e];exact hc⟩
 .cases h
theorem zNc(l:TbW P G (tbS tb))(x:GPP G):∀{ops:List FOp}{k:Sta->Option β}{st:Sta},(∀o∈ops,zy o.o.op=true)->CPS st->zNb G tb ops k st=some r →
  ∃a,k a=some r/\CPS a/\∀C:Sta->Prop,C a->zD1 G (tbS tb) (ops.map (toT th)) C st
 |[],k,st,_,s,h=>⟨st,h,s,λC d=>d⟩
 |o::ops,k,st,n,s,h=>by
  have i:∀w∈ops,zy w.o.op=true:=λw y=>n w (.tail _ y)
  have step:∀{st:Sta},CPS st->zYu G tb st o.o.op o.ks (λv st=>zNb G tb ops k (st.put o.o.dst v))=some r->∃a,k a=some r/\CPS a/\∀C:Sta->Prop,C a->zEl G (tbS tb) st o.o.op o.ks λv st=>zD1 G (tbS tb) (ops.map (toT th)) C (st.put o.o.dst v):=λ{st} s h=>by
   obtain⟨v,st1,q1,B,z,A⟩:=zcR l x (n o (.head _)) s h;obtain⟨a,h1,f,g⟩:=zNc l x i (z.qu B) q1;exact⟨a,h1,f,λC d=>A _ (g C d)⟩
  have skip:∀{st:Sta},CPS st->zNb G tb ops k (st.put o.o.dst (.qc []))=some r->∃a,k a=some r/\CPS a/\∀C:Sta->Prop,C a->zD1 G (tbS tb) (ops.map (toT th)) C (st.put o.o.dst (.qc [])):=λ{st} s h=>zNc l x i s.skip h
  simp only[zNb]at h;split at h
  .rename_i p;obtain⟨a,h1,f,g⟩:=step s h;refine⟨a,h1,f,λC d=>?_⟩
   have e:(toT th o).o.guard=none:=p;simp only[Qe,zD1,e];exact g C d
  .rename_i t b p;have e:(toT th o).o.guard=some (t,b):=p;split at h
   .rename_i c hc;have h:=zNP h;have u:=qp hc;simp only[u]at h;have q:(⟨st.fr,st.H,st.V,st.m,st.mv⟩:Sta)=st:=rfl;rw[q]at h;split at h
    .rename_i j;obtain⟨a,h1,f,g⟩:=step s h;refine⟨a,h1,f,λC d=>?_⟩
     simp only[Qe,zD1,e,hc];unfold brT;have:=g C d;cases c<;>(simp only[Br,u,j];exact this)
    .rename_i j;obtain⟨a,h1,f,g⟩:=skip s h;refine⟨a,h1,f,λC d=>?_⟩
     simp only[Qe,zD1,e,hc];unfold brT;have:=g C d;cases c<;>(simp only[Br,u,j];exact this)
   .rename_i hc;obtain⟨a,h1,f,g⟩:=skip s h;refine⟨a,h1,f,λC d=>?_⟩
    simp only[Qe,zD1,e,hc];exact g C d
   .cases h
theorem zPY(o:FOp):clsQ (toT th o)=clsQ (toQ o):=by
 unfold clsQ toT toQ;cases o.h<;>rfl
theorem zUt:∀(ops:List FOp)(ds:List XD),zKv (ops.map (toT th)) ds=zKv (ops.map toQ) ds
 |[],_=>rfl
 |o::r,[]=>rfl
 |o::r,d::ds=>by
  simp only[Qe,zKv,zUt r ds];rfl
theorem zXI:∀(ops:List FOp)(ds:List XD)(i:Nat)(a b c:JV),zMU i a b c (ops.map (toT th)) ds=zMU i a b c (ops.map toQ) ds
 |[],_,_,_,_,_=>rfl
 |o::r,[],_,_,_,_=>rfl
 |o::r,d::ds,i,a,b,c=>by
  simp only[Qe,zMU,zXI r ds,zPY]
theorem Heap.wY{h h':Nat}(a:h'≠h):∀{H:Heap}{o:HO},(H.put h o).get h'=H.get h'
 |[],o=>by
  simp only[Heap.put,Heap.get]
 |(k,x)::r,o=>by
  simp only[Heap.put];cases hk:Nat.beq k h with
  |true=>
   have:=zc hk;subst this;simp only[Heap.get];cases hb:Nat.beq k h' with
   |true=>exact absurd (zc hb).symm a
   |false=>rfl
  |false=>
   simp only[Heap.get];split
   .rfl
   .exact Heap.wY a
theorem zfV{lo:Option Nat}{st:Sta}(s:CPS st){o:FOp}(h:okQ lo G st o=true)(hc:clsQ (toT th o)=1):(∀g v,XV.t g∈o.o.op.qb->st.fr.get g=some v->CP st.mv (zEX lo st.m) v)/\∀h str cs,h<zEX lo st.m->st.H.get h=some (.cells str cs)->∀x∈cs,CP st.mv (zEX lo st.m) x:=by
 rw[zPY]at hc;unfold okQ at h;rw[hc]at h;simp only at h;cases lo with
 |none=>exact⟨λg v _ d=>s.fr g v d,λh str cs _ b x c=>by
   obtain⟨_,_,e,a⟩:=s.H.get b;cases e;exact a x c⟩
 |some l=>
  simp only[qr,QD]at h;refine⟨λg v b d=>?_,λj str cs i b x c=>?_⟩
  .have:=h.1 g (zGS b);rw[d]at this;exact(s.fr g v d).lt 12 this
  .obtain⟨_,_,e,a⟩:=s.H.get b;cases e;have f:=zXo h.2 (Qf i (Nat.min_le_left _ _)) b;exact(a x c).lt 12 (QD.1 f x c)
theorem zcT(M:TbW P G (tbS tb))(O:∀e∈th,FOK P G e)(W:GPP G){o:FOp}(F:zy o.o.op=true){k:AV->Sta->Option β}(s:CPS st){lo:Option Nat}(j:okQ lo G st o=true)(h:zYt G tb th st o k=some r):∃v u a,Stp G tb st true k r (zDZ G (tbS tb) st (toT th o)) v u a ∧
  (clsQ (toT th o)<=1->HV st a)/\(clsQ (toT th o)=2->a.V=st.V/\a.mv=st.mv/\st.m<=a.m/\∀h,h<zEX lo st.m->a.H.get h=st.H.get h):=by
 unfold zYt at h;split at h
 .rename_i hc;obtain⟨v,u,a,q⟩:=zTn M O W F s h;have hk:=q.k;split at hk
  rotate_left
  .cases hk
  rename_i J;have J:=zc J;have hc:clsQ (toT th o)<=1:=by rw[zPY];exact QS hc
  refine⟨v,u,a,⟨hk,q.vS,q.eq,q.cp,q.ve,q.w,q.le⟩,λ_=>?_,λp=>by omega⟩
  have i:(toT th o).h=none:=by
   cases A:(toT th o).h with
   |none=>rfl
   |some es=>unfold clsQ at hc;rw[A]at hc;simp at hc
  have b:=q.w (λ_ x=>x=a) rfl
  unfold zDZ at b;rw[i]at b;obtain⟨L,H,V,m,B⟩:=st;by_cases h1:clsQ (toT th o)=1
  .have b:=zbs (C':=λ_ x=>x=a/\HV ⟨L,H,V,m,B⟩ x) (m2:=m) (ms:=m) W F ⟨λ_ _=>rfl,λh str cs A hg c ab=>by
    obtain⟨_,_,e,Y⟩:=s.H.get hg;cases e;exact Y c ab⟩ (λt v _ D=>s.fr t v D) (cls1 i h1) (λv D=>⟨D,rfl,rfl,rfl,rfl⟩) b
   obtain⟨_,_,rfl,E⟩:=zRt b;exact E
  .rcases cls0 i (by omega)with hk|⟨hk,⟨x,T,ag,e⟩|⟨len,T,z,ps,e⟩⟩
   .have b:=zbr (C':=λ_ x=>x=a/\HV ⟨L,H,V,m,B⟩ x) (H2:=H) (V2:=V) (m2:=m) (mv2:=B) hk.1 hk.2 (λv x K=>by rw[K];exact J) (λv f D=>⟨D,rfl,rfl,rfl,rfl⟩) b
    obtain⟨_,_,rfl,E⟩:=zRt b;exact E
   .have b:wop G (tbS tb) ⟨L,H,V,m,B⟩ (toT th o).o.op (toT th o).ks (λ_ x=>x=a):=b
    rw[e]at b;have b:=zbu (C:=λ_ x=>x=a) (C':=λ_ x=>x=a/\HV ⟨L,H,V,m,B⟩ x) (H2:=H) (V2:=V) (m2:=m) (mv2:=B) hk (λv D=>⟨D,rfl,rfl,rfl,rfl⟩) b
    obtain⟨_,_,rfl,E⟩:=zRt b;exact E
   .have b:wop G (tbS tb) ⟨L,H,V,m,B⟩ (toT th o).o.op (toT th o).ks (λ_ x=>x=a):=b
    rw[e]at b;have b:=zbt (C:=λ_ x=>x=a) (C':=λ_ x=>x=a/\HV ⟨L,H,V,m,B⟩ x) (H2:=H) (V2:=V) (m2:=m) (mv2:=B) hk (λv D=>⟨D,rfl,rfl,rfl,rfl⟩) b
    obtain⟨_,_,rfl,E⟩:=zRt b;exact E
 .rename_i hc;obtain⟨v,u,a,q⟩:=zTn M O W F s h;have hc:¬clsQ (toT th o)<=1:=by
   rw[zPY];intro N;rw[Nat.ble_eq_true_of_le N]at hc;cases hc
  refine⟨v,u,a,q,λh1=>absurd h1 hc,λp=>?_⟩
  have i:(toT th o).h=none:=by
   cases A:(toT th o).h with
   |none=>rfl
   |some es=>unfold clsQ at p;rw[A]at p;simp at p
  have b:=q.w (λ_ x=>x=a) rfl
  unfold zDZ at b;rw[i]at b;have I:∀{o':XO},zAn o'=2->WXd st (xoS G zj st.fr st.H st.m o') (λ_ x=>x=a)->a.V=st.V/\a.mv=st.mv/\st.m<=a.m/\∀h,h<zEX lo st.m->a.H.get h=st.H.get h:=λhk b=>by
   unfold WXd at b;split at b
   .rename_i v' H' n e;subst b;obtain⟨ob,_,rfl,rfl⟩:=zXl hk e;refine⟨rfl,rfl,Qd _,λh A=>?_⟩
    have:h≠st.m:=by have:=zeq (lo:=lo) (m:=st.m);omega
    simp only[Heap.get];cases hb:Nat.beq st.m h with
    |true=>exact absurd (zc hb).symm this
    |false=>rfl
   .exact b.elim
  obtain⟨⟨d,op,g⟩,ks,A⟩:=o;have aa:A=none:=by
   cases A with
   |none=>rfl
   |some _=>cases i
  subst aa;simp only[clsQ,toT,Option.map_none]at p;simp only[toT]at b;cases op<;>first|(simp[zAn]at p;done)|(simp only at p;split at p<;>cases p;done)|exact I (by rfl) b|exact I (o':=.alloc _) rfl b|skip
  .cases ks with
   |nil=>cases p
   |cons k0 ks=>
    cases k0 with
    |c u=>cases p
    |_=>exact I (o':=.qx _ _ _ _) rfl b
  .rename_i x y T _;simp only at p;split at p
   .cases p
   .rename_i ac;have X:clsQ (toQ ⟨⟨d,.store x y T,g⟩,ks,none⟩)=2:=by
     unfold clsQ toQ;simp only[Option.map_none]
    have R:∃l h off,lo=some l/\x.ev G st.fr=some (.ptr h off)/\l<=h:=by
     unfold okQ at j;rw[X]at j;simp only at j;split at j
     .split at j
      .rename_i K;exact⟨_,_,_,rfl,K,QS j⟩
      .cases j
     .cases j
    obtain⟨l,h,off,rfl,K,N⟩:=R;simp only[wop,K]at b;unfold WXd at b;split at b
    .rename_i v' H' n e;subst b;simp only[xoS,K]at e;split at e
     .rename_i he _;cases he;split at e
      .split at e
       .split at e
        .cases e;refine⟨rfl,rfl,QA _,λh' A=>?_⟩
         have S:h'≠h:=by
          have:zEX (some l) st.m<=l:=Nat.min_le_left _ _;omega
         exact Heap.wY S
        .cases e
       .cases e
      .cases e
     .cases e
    .exact b.elim
theorem zNd(D:TbW P G (tbS tb))(A:∀e∈th,FOK P G e)(R:GPP G){lo:Option Nat}:∀{ops:List FOp}{k:Sta->Option β}{st:Sta},(∀o∈ops,zy o.o.op=true)->CPS st->zL1 lo G tb th ops k st=some r →
  ∃c:Nat->Sta,c 0=st/\ChQ G (tbS tb) lo (ops.map (toT th)) c/\CPS (c ops.length)/\k (c ops.length)=some r
 |[],k,st,_,s,h=>⟨λ_=>st,rfl,⟨λi t a=>(by cases a),λi t a=>(by cases a),λi t a=>(by cases a),λi _=>⟨s.fr,s.H⟩,λi t a=>(by cases a)⟩,s,h⟩
 |o::ops,k,st,J,s,h=>by
  have j:∀O∈ops,zy O.o.op=true:=λO T=>J O (.tail _ T)
  have B:okQ lo G st o=true:=by
   simp only[zL1]at h;split at h
   .assumption
   .cases h
  have l:∀{f:Nat->Sta},ChQ G (tbS tb) lo (ops.map (toT th)) f->zGu G (tbS tb) st (toT th o) (λx=>x=f 0)->(clsQ (toT th o)<=1->HV st (f 0)) →
    (clsQ (toT th o)=2->(f 0).V=st.V/\(f 0).mv=st.mv/\st.m<=(f 0).m/\∀h,h<zEX lo st.m->(f 0).H.get h=st.H.get h)->CPS (f ops.length)->k (f ops.length)=some r →
    ∃c:Nat->Sta,c 0=st/\ChQ G (tbS tb) lo ((o::ops).map (toT th)) c/\CPS (c (o::ops).length)/\k (c (o::ops).length)=some r:=λ{f} F h1 E I W X=>by
   refine⟨λn=>match n with
    |0=>st
    |n+1=>f n,rfl,⟨λi t a=>?_,λi t a=>?_,λi t a=>?_,λi Y=>?_,λi t a=>?_⟩,W,X⟩
   .cases i with
    |zero=>cases a;exact h1
    |succ i=>exact F.st i t a
   .cases i with
    |zero=>cases a;exact E
    |succ i=>exact F.hv i t a
   .cases i with
    |zero=>cases a;exact I
    |succ i=>exact F.al i t a
   .cases i with
    |zero=>exact⟨s.fr,s.H⟩
    |succ i=>exact F.cp i (by simpa using Y)
   .cases i with
    |zero=>cases a;exact zfV s B
    |succ i=>exact F.rd i t a
  have step:zYt G tb th st o (λv st=>zL1 lo G tb th ops k (st.put o.o.dst v))=some r->(∀C:Sta->Prop,(zDZ G (tbS tb) st (toT th o) λv st=>∃S,WK v S/\C (st.put o.o.dst S))->zGu G (tbS tb) st (toT th o) C) →
    ∃c:Nat->Sta,c 0=st/\ChQ G (tbS tb) lo ((o::ops).map (toT th)) c/\CPS (c (o::ops).length)/\k (c (o::ops).length)=some r:=λh N=>by
   obtain⟨v,u,st1,q,q1,q2⟩:=zcT D A R (J o (.head _)) s B h;obtain⟨f,z,h1,E,I⟩:=zNd D A R j (q.ve.qu q.cp) q.k;have e:∀{d:Option Nat},HV st1 (st1.put d u):=λ{d}=>by cases d<;>exact⟨rfl,rfl,rfl,rfl⟩
   refine l h1 (N _ (q.w _ ⟨u,q.vS,z.symm⟩)) (λhc=>?_) (λhc=>?_) E I
   .rw[z];exact(q1 hc).trans e
   .obtain⟨a1,a2,a3,a4⟩:=q2 hc;rw[z];have e:=e (d:=o.o.dst);rw[e.V,e.mv,e.m,e.H];exact⟨a1,a2,a3,a4⟩
  have skip:zL1 lo G tb th ops k (st.put o.o.dst (.qc []))=some r->(∀C:Sta->Prop,C (st.put o.o.dst (.qc []))->zGu G (tbS tb) st (toT th o) C) →
    ∃c:Nat->Sta,c 0=st/\ChQ G (tbS tb) lo ((o::ops).map (toT th)) c/\CPS (c (o::ops).length)/\k (c (o::ops).length)=some r:=λh N=>by
   obtain⟨f,z,h1,E,I⟩:=zNd D A R j s.skip h;have e:∀{d:Option Nat},HV st (st.put d (.qc [])):=λ{d}=>by cases d<;>exact⟨rfl,rfl,rfl,rfl⟩
   refine l h1 (N _ z.symm) (λhc=>?_) (λhc=>?_) E I
   .rw[z];exact e
   .have e:=e (d:=o.o.dst);rw[z,e.V,e.mv,e.m,e.H];exact⟨rfl,rfl,QA _,λ_ _=>rfl⟩
  simp only[zL1,B]at h;split at h
  .rename_i K;refine step h λC y=>?_
   have g:(toT th o).o.guard=none:=K;simp only[zGu,g];exact y
  .rename_i t b K;have g:(toT th o).o.guard=some (t,b):=K;split at h
   .rename_i c hc;have h:=zNP h;have M:=qp hc;simp only[M]at h;have L:(⟨st.fr,st.H,st.V,st.m,st.mv⟩:Sta)=st:=rfl;rw[L]at h;split at h
    .rename_i p;refine step h λC y=>?_
     simp only[zGu,g,hc];unfold brT;cases c<;>(simp only[Br,M,p];exact y)
    .rename_i p;refine skip h λC y=>?_
     simp only[zGu,g,hc];unfold brT;cases c<;>(simp only[Br,M,p];exact y)
   .rename_i hc;refine skip h λC y=>?_
    simp only[zGu,g,hc];exact y
   .cases h
def mkT(U:Nat)(G:Cx)(tb:TbF)(th:TbH)(r:β):FC->(JV->Ext->Sta->Option β)->TC
 |.skip,_=>.skip
 |.ret,_=>.ret
 |.exit i,_=>.exit i
 |.wH e,_=>.wH (e.map (toT th))
 |.draw h e g,_=>.draw h (e.map (toT th)) g
 |.qQ e g,_=>.qQ (e.map (toT th)) g
 |.seq a b,K=>.seq (mkT U G tb th r a λd=>zID (K d) (FT U G tb th b (K d))) (mkT U G tb th r b K)
 |.cond c a b,K=>.cond c (mkT U G tb th r a K) (mkT U G tb th r b K)
 |.block i b,K=>.block i (mkT U G tb th r b λd=>zPi i (K d))
 |.qB k b,K=>.qB k (mkT U G tb th r b λd=>match d with
   |n::d=>zID (K d) (zJ1 (FT U G tb th b) (K d) n)
   |[]=>λ_ _=>none)
 |.loop _ c b,K=>.loop c (λd f H V=>match d with
   |n::d=>CPS (mkW c f H V)/\zOB (FT U G tb th b) c (K d) n f H V=some r
   |[]=>False) (mkT U G tb th r b λd=>match d with
   |n::d=>zWO c (K d) (zOB (FT U G tb th b) c (K d) (n-1))
   |[]=>λ_ _=>none)
 |.wg _ c a b,K=>.wg c (λd f H V=>CPS (mkW c f H V)/\FT U G tb th b (K d) (mkW c f H V)=some r)
   (mkT U G tb th r a λd=>zID (K d) (zR0 c λf H V=>FT U G tb th b (K d) (mkW c f H V))) (mkT U G tb th r b K)
def fcOK:FC->Bool
 |.wH c|.draw _ c _|.qQ c _=>c.all λt=>zy t.o.op
 |.seq a b|.wg _ _ a b|.cond _ a b=>fcOK a&&fcOK b
 |.block _ b|.loop _ _ b|.qB _ b=>fcOK b
 |_=>true
def fcN(pn:JV):FC->Bool
 |.wH c|.qQ c _=>c.all λt=>match t.o.dst with
  |some d=>!inN d pn
  |none=>true
 |.draw e c _=>(c.all λt=>match t.o.dst with
  |some d=>!inN d pn
  |none=>true)&&pn.all λt=>inN t e
 |.seq a b|.wg _ _ a b|.cond _ a b=>fcN pn a&&fcN pn b
 |.block _ b|.loop _ _ b|.qB _ b=>fcN pn b
 |_=>true
theorem zMf:∀{fc:FC}{K:JV->Ext->Sta->Option β},er (mkT U G tb th r fc K)=ef fc
 |.skip,_|.ret,_|.exit _,_=>rfl
 |.wH c,_=>by simp only[mkT,er,ef,List.map_map];rfl
 |.draw _ c _,_=>by simp only[mkT,er,ef,List.map_map];rfl
 |.qQ c _,_=>by simp only[mkT,er,ef,List.map_map];rfl
 |.seq a b,_=>by simp only[mkT,er,ef,zMf]
 |.cond _ a b,_=>by simp only[mkT,er,ef,zMf]
 |.block _ b,_=>by simp only[mkT,er,ef,zMf]
 |.loop _ _ b,_=>by simp only[mkT,er,ef,zMf]
 |.qB _ b,_=>by simp only[mkT,er,ef,zMf]
 |.wg _ _ a b,_=>by simp only[mkT,er,ef,zMf]
theorem zMg:∀{fc:FC}{K:JV->Ext->Sta->Option β},zFN (mkT U G tb th r fc K)=fcOK fc
 |.skip,_|.ret,_|.exit _,_=>rfl
 |.wH c,_=>by simp only[mkT,zFN,fcOK,List.all_map];rfl
 |.draw _ c _,_=>by simp only[mkT,zFN,fcOK,List.all_map];rfl
 |.qQ c _,_=>by simp only[mkT,zFN,fcOK,List.all_map];rfl
 |.seq a b,_=>by simp only[mkT,zFN,fcOK,zMg]
 |.cond _ a b,_=>by simp only[mkT,zFN,fcOK,zMg]
 |.block _ b,_=>by simp only[mkT,zFN,fcOK,zMg]
 |.loop _ _ b,_=>by simp only[mkT,zFN,fcOK,zMg]
 |.qB _ b,_=>by simp only[mkT,zFN,fcOK,zMg]
 |.wg _ _ a b,_=>by simp only[mkT,zFN,fcOK,zMg]
theorem zPZ{pn:JV}:∀{fc:FC}{K:JV->Ext->Sta->Option β},tcN pn (mkT U G tb th r fc K)=fcN pn fc
 |.skip,_|.ret,_|.exit _,_=>rfl
 |.wH c,_=>by simp only[mkT,tcN,fcN,List.all_map];rfl
 |.draw _ c _,_=>by simp only[mkT,tcN,fcN,List.all_map];rfl
 |.qQ c _,_=>by simp only[mkT,tcN,fcN,List.all_map];rfl
 |.seq a b,_=>by simp only[mkT,tcN,fcN,zPZ]
 |.cond _ a b,_=>by simp only[mkT,tcN,fcN,zPZ]
 |.block _ b,_=>by simp only[mkT,tcN,fcN,zPZ]
 |.loop _ _ b,_=>by simp only[mkT,tcN,fcN,zPZ]
 |.qB _ b,_=>by simp only[mkT,tcN,fcN,zPZ]
 |.wg _ _ a b,_=>by simp only[mkT,tcN,fcN,zPZ]
theorem zKA(c:∀e∈th,FOK P G e):∀{fc:FC}{K:JV->Ext->Sta->Option β},tcH (HOK P G) (mkT U G tb th r fc K)
 |.skip,_|.ret,_|.exit _,_=>trivial
 |.wH g,_=>by
  intro t i l d e k;obtain⟨o,_,rfl⟩:=Qg.1 i;simp only[toT]at d;cases ho:o.h with
  |none=>rw[ho]at d;cases d
  |some p=>
   rw[ho,Option.map_some]at d;cases d;obtain⟨j,f,rfl⟩:=Qg.1 k;exact(c j f).h
 |.draw _ g _,_=>trivial
 |.qQ g _,_=>by
  intro t i l d e k;obtain⟨o,_,rfl⟩:=Qg.1 i;simp only[toT]at d;cases ho:o.h with
  |none=>rw[ho]at d;cases d
  |some p=>
   rw[ho,Option.map_some]at d;cases d;obtain⟨j,f,rfl⟩:=Qg.1 k;exact(c j f).h
 |.seq a b,_=>⟨zKA c,zKA c⟩
 |.cond _ a b,_=>⟨zKA c,zKA c⟩
 |.block _ b,_=>zKA (fc:=b) c
 |.loop _ _ b,_=>zKA (fc:=b) c
 |.qB _ b,_=>zKA (fc:=b) c
 |.wg _ _ a b,_=>⟨zKA c,zKA c⟩
theorem zIE(g:TbW P G (tbS tb))(l:∀e∈th,FOK P G e)(u:GPP G):∀{fc:FC}{K:JV->Ext->Sta->Option β}{gs:JV}{Q:Ext->Sta->Prop}{st:Sta},fcOK fc=true->CPS st->FT U G tb th fc (K gs) st=some r →
  (∀x m,CPS m->K gs x m=some r->Q x m)->WT G (tbS tb) (mkT U G tb th r fc K) gs Q st
 |.skip,K,gs,Q,st,_,s,h,f=>f _ _ s h
 |.ret,K,gs,Q,st,_,s,h,f=>f _ _ s h
 |.exit i,K,gs,Q,st,_,s,h,f=>f _ _ s h
 |.wH w,K,gs,Q,st,d,s,h,f=>by
  obtain⟨m,h1,v,y⟩:=zOD g l u (λo C=>QD.1 d o C) s h
  exact y _ (f _ _ v h1)
 |.draw X w O,K,gs,Q,st,d,s,h,f=>by
  simp only[FT]at h;split at h
  .rename_i E;obtain⟨m,h1,v,y⟩:=zNc (th:=th) g u (λo C=>QD.1 d o C) s h
   have e:(w.map (toT th)).map TOp.o=w.map FOp.o:=by rw[List.map_map];rfl
   simp only[mkT,WT,e,E];exact y _ (f _ _ v h1)
  .cases h
 |.qQ w O,K,gs,Q,st,d,s,h,f=>by
  simp only[FT]at h;split at h
  .rename_i E;obtain⟨c,M,h1,v,y⟩:=zNd g l u (λo C=>QD.1 d o C) s h
   simp only[mkT,WT];refine⟨by rw[zUt,zXI];exact E,_,c,M,h1,?_⟩
   rw[QG];exact f _ _ v y
  .cases h
 |.seq a b,K,gs,Q,st,d,s,h,f=>by
  simp only[fcOK,qr]at d;refine zIE g l u (fc:=a) (K:=λgs=>zID (K gs) (FT U G tb th b (K gs))) d.1 s h λx m q p=>?_
  cases x with
  |normal=>exact zIE g l u d.2 q p f
  |exit i=>exact f _ _ q p
  |ret=>exact f _ _ q p
 |.cond c a b,K,gs,Q,st,d,s,h,f=>by
  simp only[fcOK,qr]at d;simp only[FT]at h;simp only[mkT,WT];split at h
  .rename_i I z;rw[z];split at h
   .rename_i n;have h:=zNP h;have D:st.fr.get n=some (.bool I):=z;have F:=qp D;simp only[F]at h;unfold brT;cases I with
    |true=>simp only[Br,F];exact zIE g l u d.1 s h f
    |false=>simp only[Br,F];exact zIE g l u d.2 s h f
   .rename_i A;rcases zPj h with⟨rfl,h⟩|⟨rfl,h⟩
    .cases c with
     |t n=>exact absurd rfl (A n)
     |_=>exact zIE g l u d.1 s h f
    .cases c with
     |t n=>exact absurd rfl (A n)
     |_=>exact zIE g l u d.2 s h f
  .cases h
 |.block i b,K,gs,Q,st,d,s,h,f=>by
  refine zIE g l u (fc:=b) (K:=λgs=>zPi i (K gs)) d s h λx m q p=>?_
  cases x with
  |normal=>exact f _ _ q p
  |ret=>exact f _ _ q p
  |exit j=>
   simp only[zPi]at p;simp only[zXn];split at p
   .rename_i e;simp only[e];exact f _ _ q p
   .rename_i e;simp only[e];exact f _ _ q p
 |.qB k b,K,gs,Q,st,d,s,h,f=>by
  have key:∀(n:Nat)(st:Sta),CPS st->zJ1 (FT U G tb th b) (K gs) n st=some r->zSf (λn Q st=>WT G (tbS tb) (mkT U G tb th r b λgs=>match gs with
    |n::gs=>zID (K gs) (zJ1 (FT U G tb th b) (K gs) n)
    |[]=>λ_ _=>none) (n::gs) Q st) Q n st:=by
   intro n
   induction n with
   |zero=>intro st _ h;cases h
   |succ n T=>
    intro st s h;refine zIE g l u (fc:=b) (K:=λgs=>match gs with
     |n::gs=>zID (K gs) (zJ1 (FT U G tb th b) (K gs) n)
     |[]=>λ_ _=>none) (gs:=n::gs) d s h λx m q p=>?_
    cases x with
    |normal=>exact T m q p
    |exit i=>exact f _ _ q p
    |ret=>exact f _ _ q p
  exact key k st s h
 |.loop id c b,K,gs,Q,st,d,s,h,f=>by
  obtain⟨B,H,V,h1,v,y⟩:=zJ3 s h;refine⟨⟨U,y _ ⟨v,h1⟩⟩,?_⟩
  rintro n B H V ⟨s1,hl⟩
  cases n with
  |zero=>cases hl
  |succ n=>
   refine zIE g l u (fc:=b) (K:=λgs=>match gs with
    |n::gs=>zWO c (K gs) (zOB (FT U G tb th b) c (K gs) (n-1))
    |[]=>λ_ _=>none) (gs:=(n+1)::gs) d s1 hl λx m q p=>?_
   cases x with
   |normal=>
    obtain⟨R,Y,W,L,S,N⟩:=zJ3 q p;exact⟨n,QX n,N _ ⟨S,L⟩⟩
   |exit i=>exact f _ _ q p
   |ret=>exact f _ _ q p
 |.wg id c a b,K,gs,Q,st,d,s,h,f=>by
  simp only[fcOK,qr]at d;refine⟨zIE g l u (fc:=a) (K:=λgs=>zID (K gs) (zR0 c λB H V=>FT U G tb th b (K gs) (mkW c B H V))) d.1 s h λx m q p=>?_,λB H V J=>zIE g l u d.2 J.1 J.2 f⟩
  cases x with
  |normal=>
   obtain⟨B,H,V,h1,v,y⟩:=zJ3 q p;exact y _ ⟨v,h1⟩
  |exit i=>exact f _ _ q p
  |ret=>exact f _ _ q p
theorem zDp(g:TbW P G (tbS tb))(l:∀e∈th,FOK P G e)(q:GPP G):∀{fc:FC}{K:Ext->Sta->Option β}{st:Sta},fcOK fc=true->CPS st->FT U G tb th fc K st=some r->∃x f,CPS f/\K x f=some r
 |.skip,K,st,_,s,h=>⟨_,_,s,h⟩
 |.ret,K,st,_,s,h=>⟨_,_,s,h⟩
 |.exit i,K,st,_,s,h=>⟨_,_,s,h⟩
 |.wH w,K,st,d,s,h=>by
  obtain⟨f,h1,t,z⟩:=zOD g l q (λo v=>QD.1 d o v) s h
  exact⟨_,_,t,h1⟩
 |.draw N w E,K,st,d,s,h=>by
  simp only[FT]at h;split at h
  .obtain⟨f,h1,t,z⟩:=zNc (th:=th) g q (λo v=>QD.1 d o v) s h
   exact⟨_,_,t,h1⟩
  .cases h
 |.qQ w E,K,st,d,s,h=>by
  simp only[FT]at h;split at h
  .obtain⟨c,M,h1,t,z⟩:=zNd (th:=th) g l q (λo v=>QD.1 d o v) s h
   exact⟨_,_,t,z⟩
  .cases h
 |.seq a b,K,st,d,s,h=>by
  simp only[fcOK,qr]at d;obtain⟨x,f,p,m⟩:=zDp g l q (fc:=a) d.1 s h;cases x with
  |normal=>exact zDp g l q d.2 p m
  |exit i=>exact⟨_,_,p,m⟩
  |ret=>exact⟨_,_,p,m⟩
 |.cond c a b,K,st,d,s,h=>by
  simp only[fcOK,qr]at d;simp only[FT]at h;split at h
  .rename_i C y;split at h
   .rename_i n;have h:=zNP h;have F:=qp (show st.fr.get n=some (.bool C)from y)
    simp only[F]at h;cases C with
    |true=>exact zDp g l q d.1 s h
    |false=>exact zDp g l q d.2 s h
   .rcases zPj h with⟨_,h⟩|⟨_,h⟩
    .exact zDp g l q d.1 s h
    .exact zDp g l q d.2 s h
  .cases h
 |.block i b,K,st,d,s,h=>by
  obtain⟨x,f,p,m⟩:=zDp g l q (fc:=b) d s h;cases x with
  |normal=>exact⟨_,_,p,m⟩
  |ret=>exact⟨_,_,p,m⟩
  |exit j=>
   simp only[zPi]at m;split at m
   .exact⟨_,_,p,m⟩
   .exact⟨_,_,p,m⟩
 |.qB k b,K,st,d,s,h=>by
  have key:∀(n:Nat)(st:Sta),CPS st->zJ1 (FT U G tb th b) K n st=some r->∃x f,CPS f/\K x f=some r:=by
   intro n
   induction n with
   |zero=>intro st _ h;cases h
   |succ n B=>
    intro st s h;obtain⟨x,f,p,m⟩:=zDp g l q (fc:=b) d s h;cases x with
    |normal=>exact B f p m
    |exit i=>exact⟨_,_,p,m⟩
    |ret=>exact⟨_,_,p,m⟩
  exact key k st s h
 |.loop id c b,K,st,d,s,h=>by
  obtain⟨u,H,V,h1,t,_⟩:=zJ3 s h;have key:∀(n:Nat) u H V,CPS (mkW c u H V)->zOB (FT U G tb th b) c K n u H V=some r->∃x f,CPS f/\K x f=some r:=by
   intro n
   induction n with
   |zero=>intro u H V _ h;cases h
   |succ n B=>
    intro u H V s h;obtain⟨x,f,p,m⟩:=zDp g l q (fc:=b) d s h;cases x with
    |normal=>
     obtain⟨A,L,I,D,J,_⟩:=zJ3 p m;exact B A L I J D
    |exit i=>exact⟨_,_,p,m⟩
    |ret=>exact⟨_,_,p,m⟩
  exact key _ u H V t h1
 |.wg id c a b,K,st,d,s,h=>by
  simp only[fcOK,qr]at d;obtain⟨x,f,p,m⟩:=zDp g l q (fc:=a) d.1 s h;cases x with
  |normal=>
   obtain⟨u,H,V,h1,t,_⟩:=zJ3 p m;exact zDp g l q d.2 t h1
  |exit i=>exact⟨_,_,p,m⟩
  |ret=>exact⟨_,_,p,m⟩
end
structure FFn where
 np:Nat
 nt:Nat
 fc:FC
 res:List XR
def FFn.xf(x:FFn):XF:=⟨x.np,x.nt,ef x.fc,x.res⟩
def valF(U:Nat)(G:Cx)(tb:TbF)(th:TbH)(x:FFn)(args:JE):JF:=match Nat.beq args.length x.np with
 |true=>FT U G tb th x.fc (zaI x.res) ⟨qE 0 args,[],[],0,0⟩
 |false=>none
def zaJ(U:Nat)(G:Cx)(tb:TbF)(th:TbH)(x:FFn)(pn:JV)(args:JE)(H:Heap)(V:Vecs):Option (AV×Heap×Vecs):=match Nat.beq args.length x.np&&zLX (qE 0 args) 0 pn&&Nat.beq pn.length H.length with
 |true=>FT U G tb th x.fc (zQw x.res pn) ⟨qE 0 args,H,V,H.length,V.length⟩
 |false=>none
section
variable{P:Program}{U:Nat}{G:Cx}{tb:TbF}{th:TbH}{st:Sta}
theorem FnX.enters{P:Program}{f:Nat}{g:XF}(hx:FnX P f g):Enters P f:=by
 obtain⟨fn,e,b,a⟩:=hx.ok;unfold compF at b;obtain⟨d,c,b⟩:=za b;exact⟨fn,d,e,c,a⟩
theorem zeG(s:CPS st):∀(d:Nat){v v':AV},CP st.mv st.m v->zCA st.H st.V d v=some v'->PP v':=by
 intro d
 induction d with
 |zero=>intro v v' _ h;cases h
 |succ d y=>
  intro v v' hc h;have k:∀{l A:JE},(∀e∈l,CP st.mv st.m e)->zF (zCA st.H st.V d) l=some A->∀e∈A,PP e:=λF K=>by
   obtain⟨m1,m2⟩:=zCc K;intro x J;obtain⟨i,w⟩:=List.getElem?_of_mem J;have n:=(QB.1 w).1;have z:=QF (show i<_ from m1▸n)
   exact y (F _ (QE z)) (m2 i _ x z w)
  cases hc with
  |sym j S=>
   simp only[zCA]at h;split at h
   .rename_i M;cases h;exact .qg _ _ (s.V _ _ M).2
   .cases h
  |agg E g=>
   simp only[zCA]at h;split at h
   .rename_i c;cases h;exact .agg _ (k g c)
   .cases h
  |qc E g=>
   simp only[zCA]at h;split at h
   .rename_i c;cases h;exact .qc _ (k g c)
   .cases h
  |ptr O off hk=>
   simp only[zCA]at h;split at h
   .rename_i D;obtain⟨_,_,e,o⟩:=s.H.get D;cases e;split at h
    .rename_i c;cases h;exact .qd _ _ (.agg _ (k o c))
    .cases h
   .cases h
  |iface t u I=>
   simp only[zCA]at h;split at h
   .rename_i c;cases h;exact .iface _ _ (y I c)
   .cases h
  |func f a b L C=>
   simp only[zCA]at h;split at h
   .rename_i h1;split at h
    .rename_i B;cases h;exact .func _ _ _ (k L h1) (k C B)
    .cases h
   .cases h
  |bool b=>cases h;exact .bool _
  |int q m=>cases h;exact .int _ _
  |str s=>cases h;exact .str _
  |qm=>cases h;exact .qm
  |qa=>cases h;exact .qa
  |ql=>cases h;exact .ql
  |qk=>cases h;exact .qk
  |qf=>cases h;exact .qf
  |qd e off p=>cases h;exact .qd _ _ p
  |qg N R p=>cases h;exact .qg _ _ p
  |_=>cases h
theorem zRz(s:CPS st){rs:List XR}{vs:JE}(h:zJi st.H st.fr rs=some vs):CP st.mv st.m (zEn vs):=zTm (zVl s.fr s.H h)
theorem zWd{a:List XR}{x:Ext}{v:AV}(s:CPS st)(h:zaI a x st=some v):PP v/\zRZ a (λu=>u=v) x st:=by
 have key:∀{x:Ext},(∀i,x≠.exit i)->(match zJi st.H st.fr a with|some c=>zCA st.H st.V 8 (zEn c)|none=>none)=some v->PP v/\zRZ a (λu=>u=v) x st:=λ{x} d h=>by
  split at h
  .rename_i c b;refine⟨zeG s 8 (zRz s b) h,?_⟩
   unfold zRZ zRY;cases x with
   |exit i=>exact absurd rfl (d i)
   |normal=>simp only[b,h]
   |ret=>simp only[b,h]
  .cases h
 cases x with
 |exit i=>cases h
 |normal=>exact key (λi e=>by cases e) h
 |ret=>exact key (λi e=>by cases e) h
theorem zeH{f:Nat}{x:FFn}(hx:FnX P f x.xf)(c:fcOK x.fc=true)(q:GPP G)(hm:zCa P G)(i:P.follows .mixedOrders=true)(d:TbW P G (tbS tb))(b:∀e∈th,FOK P G e){args:JE}{v:AV}(g:∀a∈args,PP a)(h:valF U G tb th x args=some v):
  Enters P f/\PP v/\∀H nx,FnT P G f args H nx v H nx:=by
 unfold valF at h;split at h
 rotate_left
 .cases h
 rename_i k;have s:CPS ⟨qE 0 args,[],[],0,0⟩:=⟨zNO λa z=>(g a z).cp,λp g=>(by cases g),λj A h=>(by cases h),λp g=>(by cases g)⟩
 obtain⟨y,n,l,m⟩:=zDp d b q c s h;have o:=(zWd l m).1;have w:=zIE d b q (K:=λ_=>zaI x.res) (gs:=[]) (Q:=zRZ x.res λu=>u=v) c s h λy n l m=>(zWd l m).2
 obtain⟨h1,t⟩:=zgx hx zMf.symm (by rw[zMg];exact c) q hm i d (zKA b) (zc k) g w
 exact⟨h1,o,t⟩
theorem zWf{n:Nat}:∀{H:Heap},outB n H=true->∀p∈H,∃str cs,p.2=.cells str cs/\∀c∈cs,zai n c=true
 |[],h,p,a=>by cases a
 |(k,o)::H,h,p,a=>by
  cases o with
  |cells str cs=>
   simp only[outB,qr]at h;rcases QH.1 a with rfl|a
   .exact⟨str,cs,rfl,λc hc=>QD.1 h.1 c hc⟩
   .exact zWf h.2 p a
  |_=>cases h
theorem zWg:∀{V:Vecs},zTP V=true->∀j vi,V.get j=some vi->vi.qA=true
 |[],h,j,vi,e=>by cases e
 |(k,o)::r,h,j,vi,e=>by
  simp only[zTP,qr]at h;rw[Vecs.qh]at e;split at e
  .cases e;exact h.1
  .exact zWg h.2 j vi e
theorem zRA{b:List XR}{pn:JV}{x:Ext}{v:AV}{H2:Heap}{V2:Vecs}(s:CPS st)(h:zQw b pn x st=some (v,H2,V2)):
  (PP v\/∃j,v=.sym j/\j<V2.length)/\CPW H2 V2/\H2.keys=List.range' 0 pn.length/\outB V2.length H2=true/\zTP V2=true/\zO8 b pn (λu H' n=>u=v/\H'=H2/\n=V2) x st:=by
 have key:∀{x:Ext},(∀i,x≠.exit i)->zQw b pn x st=some (v,H2,V2)->(PP v\/∃j,v=.sym j/\j<V2.length)/\CPW H2 V2/\H2.keys=List.range' 0 pn.length/\outB V2.length H2=true/\zTP V2=true/\zO8 b pn (λu H' n=>u=v/\H'=H2/\n=V2) x st:=by
  intro x w h;have D:zQw b pn x st=zQw b pn .ret st:=by cases x with|exit i=>exact absurd rfl (w i)|_=>rfl
  have B:∀R,zO8 b pn R x st=zO8 b pn R .ret st:=λR=>by cases x with|exit i=>exact absurd rfl (w i)|_=>rfl
  rw[D]at h;rw[B];unfold zQw at h;unfold zO8 zRY;simp only at h⊢;split at h
  .rename_i F d;simp only[d];split at h
   .rename_i f;simp only[f];split at h
    .rename_i k;obtain⟨us,H,V,c,y,z,t,A,C,m,l⟩:=zKz s (λv q=>by cases q) h
     split at c
     .rename_i a;simp only[qr]at a;simp only[QN,Prod.mk.injEq]at c;obtain⟨rfl,rfl,rfl⟩:=c;have p:=k;simp only[Bool.or_eq_false_iff]at k;refine⟨.inl (zNA 8 (zRz s d) k.1),t,by rw[m,List.length_range],a.1,a.2,?_⟩
      simp only[p];exact l _ ⟨trivial,rfl,rfl⟩
     .cases c
    .cases h
   .rename_i f;simp only[f];split at h
    .rename_i g;simp only[g];obtain⟨us,H,V,c,y,z,t,A,C,m,l⟩:=zKz s (λv q=>by rw[Qa.1 q];exact zRz s d) h
     split at c
     .rename_i u;split at c
      .rename_i a;simp only[qr]at a;simp only[QN,Prod.mk.injEq]at c;obtain⟨rfl,rfl,rfl⟩:=c;have o:=y u (.head _);refine⟨.inr ?_,t,by rw[m,List.length_range],a.2.1,a.2.2,l _ ⟨rfl,rfl,rfl⟩⟩
       cases u with
       |sym j=>cases o with|sym _ E=>exact⟨j,rfl,E⟩
       |_=>cases a.1
      .cases c
     .cases c
    .cases h
  .cases h
 cases x with
 |exit i=>cases h
 |normal=>exact key (λi e=>by cases e) h
 |ret=>exact key (λi e=>by cases e) h
theorem zeI{f:Nat}{x:FFn}{grow:JN}{pn:JV}(hx:FnX P f x.xf)(d:fcOK x.fc=true)(m:(fcN pn x.fc&&!inpl grow)=true)(B:GPP G)(hm:zCa P G)(i:P.follows .mixedOrders=true)(g:TbW P G (tbS tb))(b:∀e∈th,FOK P G e):FOK P G ⟨f,grow,zaJ U G tb th x pn⟩:=by
 have start:∀{args:JE}{H:Heap}{V:Vecs}{v:AV}{w:Heap}{n:Vecs},(∀a∈args,CP V.length H.length a)->CPW H V->zaJ U G tb th x pn args H V=some (v,w,n)->args.length=x.np/\zLX (qE 0 args) 0 pn=true/\pn.length=H.length/\CPS ⟨qE 0 args,H,V,H.length,V.length⟩/\FT U G tb th x.fc (zQw x.res pn) ⟨qE 0 args,H,V,H.length,V.length⟩=some (v,w,n):=λhc o h=>by
  unfold zaJ at h;split at h
  .rename_i z;simp only[qr]at z;exact⟨zc z.1.1,z.1.2,zc z.2,o.mk' (zNO hc),h⟩
  .cases h
 rw[qr,Bool.not_eq_true']at m;obtain⟨I,E⟩:=m;refine⟨HOK.of E hx.enters λargs H V v w n t J=>?_,λargs H V v w n hc o hk J=>?_⟩
 .obtain⟨hc,o,hk⟩:=t;obtain⟨R,N,S,A,h⟩:=start hc o J;obtain⟨y,s,k,q⟩:=zDp g b B d A h;obtain⟨q1,L,W,q4,X,_⟩:=zRA k q;refine⟨⟨q1,by rw[W,hk,S],λp O=>?_,zWg X⟩,?_⟩
  .obtain⟨str,T,e,F⟩:=zWf q4 p O;refine⟨str,T,e,λc l=>?_⟩
   have h1:=F c l;obtain⟨_,_,M,C⟩:=L.H p O;rw[e]at M;cases M;unfold zai at h1;split at h1
   .rename_i j;exact .inr ⟨j,rfl,by simpa[Ql]using h1⟩
   .exact .inl (zEH 12 (C c l) h1)
  .have D:=zIE g b B (K:=λ_=>zQw x.res pn) (gs:=[]) (Q:=zO8 x.res pn (λu H' Y=>u=v/\H'=w/\Y=n)) d A h λy s k q=>(zRA k q).2.2.2.2.2
   exact(zfU hx zMf.symm (by rw[zMg];exact d) B hm i g (zKA b) (by rw[zPZ];exact I) R N D).2
 .obtain⟨R,N,S,A,h⟩:=start hc o J;obtain⟨y,s,k,q⟩:=zDp g b B d A h;obtain⟨q1,L,_⟩:=zRA k q;exact λj vi hj=>L.V j vi hj
structure HFun where
 f:Nat
 grow:JN
 pn:JV
 x:FFn
structure Grp where
 vs:List (Nat×FFn)
 hs:List HFun
abbrev RV:=Nat->JE->JF
abbrev RH:=Nat->JE->Heap->Vecs->Option (AV×Heap×Vecs)
def tbV(g:List (Nat×FFn))(r:RV)(tb:TbF):TbF:=match g with
 |[]=>tb
 |p::g=>(p.1,r p.1)::tbV g r tb
def tbO(g:List HFun)(r:RH)(th:TbH):TbH:=match g with
 |[]=>th
 |p::g=>⟨p.f,p.grow,r p.f⟩::tbO g r th
def zWP(U:Nat)(G:Cx)(tb:TbF)(th:TbH):List (Nat×FFn)->RV
 |[],_=>λ_=>none
 |p::g,f=>match Nat.beq f p.1 with
  |true=>valF U G tb th p.2
  |false=>zWP U G tb th g f
def zWQ(U:Nat)(G:Cx)(tb:TbF)(th:TbH):List HFun->RH
 |[],_=>λ_ _ _=>none
 |p::g,f=>match Nat.beq f p.f with
  |true=>zaJ U G tb th p.x p.pn
  |false=>zWQ U G tb th g f
def recG(U:Nat)(G:Cx)(tb:TbF)(th:TbH)(g:Grp):Nat->RV×RH
 |0=>(λ_ _=>none,λ_ _ _ _=>none)
 |n+1=>(zWP U G (tbV g.vs (recG U G tb th g n).1 tb) (tbO g.hs (recG U G tb th g n).2 th) g.vs,zWQ U G (tbV g.vs (recG U G tb th g n).1 tb) (tbO g.hs (recG U G tb th g n).2 th) g.hs)
def gv(U:Nat)(G:Cx)(tb:TbF)(th:TbH)(g:Grp)(n f:Nat):JE->JF:=(recG U G tb th g n).1 f
def go(U:Nat)(G:Cx)(tb:TbF)(th:TbH)(g:Grp)(n f:Nat):JE->Heap->Vecs->Option (AV×Heap×Vecs):=(recG U G tb th g n).2 f
structure GrpOK(P:Program)(g:Grp):Prop where
 vs:∀p∈g.vs,FnX P p.1 p.2.xf/\fcOK p.2.fc=true
 hs:∀p∈g.hs,FnX P p.f p.x.xf/\fcOK p.x.fc=true/\(fcN p.pn p.x.fc&&!inpl p.grow)=true
theorem zeJ{g:Grp}(k:GrpOK P g)(C:GPP G)(hm:zCa P G)(i:P.follows .mixedOrders=true)(B:TbW P G (tbS tb))(w:∀e∈th,FOK P G e):∀n,TbW P G (tbS (tbV g.vs (recG U G tb th g n).1 tb))/\∀e∈tbO g.hs (recG U G tb th g n).2 th,FOK P G e:=by
 have mk:∀{r:RV×RH},(∀p∈g.vs,∀args v,(∀a∈args,PP a)->r.1 p.1 args=some v->Enters P p.1/\PP v/\∀H m,FnT P G p.1 args H m v H m)->(∀p∈g.hs,FOK P G ⟨p.f,p.grow,r.2 p.f⟩)->TbW P G (tbS (tbV g.vs r.1 tb))/\∀e∈tbO g.hs r.2 th,FOK P G e:=by
  intro r h1 D
  constructor
  .have:∀(l:List (Nat×FFn)),(∀p∈l,p∈g.vs)->TbW P G (tbS (tbV l r.1 tb)):=by
    intro l
    induction l with
    |nil=>intro _;exact B
    |cons p l o=>
     intro d s t;simp only[tbV,tbS,Qe,QH]at t;rcases t with rfl|t
     .exact λargs v b E=>h1 p (d p (.head _)) args v b E
     .exact o (λq c=>d q (.tail _ c)) s t
   exact this g.vs λp b=>b
  .have:∀(l:List HFun),(∀p∈l,p∈g.hs)->∀e∈tbO l r.2 th,FOK P G e:=by
    intro l
    induction l with
    |nil=>intro _;exact w
    |cons p l o=>
     intro d e u;simp only[tbO,QH]at u;rcases u with rfl|u
     .exact D p (d p (.head _))
     .exact o (λq c=>d q (.tail _ c)) e u
   exact this g.hs λp b=>b
 intro n
 induction n with
 |zero=>
  refine mk (λp b args v _ h=>by cases h) λp b=>⟨⟨(k.hs p b).1.enters,λargs H V v z y _ h=>(by cases h)⟩,λargs H V v z y _ _ _ h=>(by cases h)⟩
 |succ n o=>
  obtain⟨i1,i2⟩:=o;refine mk (λp b args v x h=>?_) λp b=>?_
  .have:∀(l:List (Nat×FFn)),(∀q∈l,q∈g.vs)->zWP U G (tbV g.vs (recG U G tb th g n).1 tb) (tbO g.hs (recG U G tb th g n).2 th) l p.1 args=some v->Enters P p.1/\PP v/\∀H m,FnT P G p.1 args H m v H m:=by
    intro l
    induction l with
    |nil=>intro _ h;cases h
    |cons q l j=>
     intro d h;rw[zWP]at h;cases e:Nat.beq p.1 q.1 with
     |true=>
      rw[e]at h;have e:=zc e;obtain⟨A,a2⟩:=k.vs q (d q (.head _));rw[e];exact zeH A a2 C hm i i1 i2 x h
     |false=>
      rw[e]at h;exact j (λq c=>d q (.tail _ c)) h
   exact this g.vs (λq c=>c) h
  .have:∀(l:List HFun),(∀q∈l,q∈g.hs)->FOK P G ⟨p.f,p.grow,zWQ U G (tbV g.vs (recG U G tb th g n).1 tb) (tbO g.hs (recG U G tb th g n).2 th) l p.f⟩:=by
    intro l
    induction l with
    |nil=>intro _;exact⟨⟨(k.hs p b).1.enters,λargs H V v z y _ h=>(by cases h)⟩,λargs H V v z y _ _ _ h=>(by cases h)⟩
    |cons q l j=>
     intro d;rw[zWQ];cases e:Nat.beq p.f q.f with
     |true=>
      have e:=zc e;obtain⟨A,a2,a3⟩:=k.hs q (d q (.head _));rw[e];have a4:=(k.hs p b).2.2;rw[qr]at a3 a4;exact zeI A a2 (by rw[qr];exact⟨a3.1,a4.2⟩) C hm i i1 i2
     |false=>exact j λq c=>d q (.tail _ c)
   exact this g.hs λq c=>c
def zaK(U:Nat)(G:Cx)(tb:TbF)(th:TbH)(g:Grp)(n:Nat):TbF:=tbV g.vs (gv U G tb th g n) tb
def zaL(U:Nat)(G:Cx)(tb:TbF)(th:TbH)(g:Grp)(n:Nat):TbH:=tbO g.hs (go U G tb th g n) th
structure TabOK(P:Program)(G:Cx)(tb:TbF)(th:TbH):Prop where
 v:TbW P G (tbS tb)
 o:∀e∈th,FOK P G e
theorem TabOK.nil:TabOK P G [] []:=⟨λs a=>(by cases a),λe b=>(by cases b)⟩
def zG7(P:Program)(G:Cx)(f:Nat)(g:JE->JF):Prop:=∀args v,(∀a∈args,PP a)->g args=some v->Enters P f/\PP v/\∀H b,FnT P G f args H b v H b
theorem TabOK.ext(h:TabOK P G tb th){f:Nat}{g:JE->JF}(b:zG7 P G f g):TabOK P G ((f,g)::tb) th:=⟨λs a=>by
 simp only[tbS,Qe,QH]at a;rcases a with rfl|a
 .exact b
 .exact h.v s a,h.o⟩
theorem TabOK.uq(h:TabOK P G tb th){e:FEnt}(b:FOK P G e):TabOK P G tb (e::th):=⟨h.v,λx a=>by
 rcases QH.1 a with rfl|a
 .exact b
 .exact h.o x a⟩
theorem GrpOK.nil:GrpOK P ⟨[],[]⟩:=⟨λp a=>(by cases a),λp a=>(by cases a)⟩
theorem GrpOK.wD{f:Nat}{x:FFn}{vs:List (Nat×FFn)}{b:List HFun}(h1:FnX P f x.xf)(c:fcOK x.fc=true)(h:GrpOK P ⟨vs,b⟩):GrpOK P ⟨(f,x)::vs,b⟩:=⟨λp a=>by
 rcases QH.1 a with rfl|a
 .exact⟨h1,c⟩
 .exact h.vs p a,h.hs⟩
theorem GrpOK.wL{x:HFun}{vs:List (Nat×FFn)}{b:List HFun}(h1:FnX P x.f x.x.xf)(c:fcOK x.x.fc=true)(d:(fcN x.pn x.x.fc&&!inpl x.grow)=true)(h:GrpOK P ⟨vs,b⟩):GrpOK P ⟨vs,x::b⟩:=⟨h.vs,λp a=>by
 rcases QH.1 a with rfl|a
 .exact⟨h1,c,d⟩
 .exact h.hs p a⟩
theorem TabOK.add(h:TabOK P G tb th){g:Grp}(d:GrpOK P g)(e:GPP G)(hm:zCa P G)(c:P.follows .mixedOrders=true)(n:Nat):TabOK P G (zaK U G tb th g n) (zaL U G tb th g n):=
 let ⟨a,b⟩:=zeJ d e hm c h.v h.o n
 ⟨a,b⟩
end
inductive LA where
 |u (k:Nat)
 |c (id:Nat) (c:Cut)
 |q
 |d (pn:JV)
structure An where
 ka:List (Nat×List K)
 ha:List (Nat×List D)
 cv:Option (List D)
 sj:List (Nat×Nat×Cut)
 lp:List LA
def lkA{α:Type}:List (Nat×α)->Nat->Option α
 |[],_=>none
 |p::r,n=>match Nat.beq n p.1 with
  |true=>some p.2
  |false=>lkA r n
def zdz(A:An)(o:XOper):FOp:=⟨o,match o.dst with
 |some d=>match lkA A.ka d with
  |some k=>k
  |none=>[]
 |none=>match o.op with
  |.store (.t a) _ _=>match lkA A.ka (10000+a)with
   |some k=>k
   |none=>[]
  |_=>[],match o.op with
 |.call f _=>lkA A.ha f
 |.qM _ _=>match o.dst with
  |some d=>match lkA A.ha (5000000+d)with
   |some k=>some k
   |none=>A.cv
  |none=>A.cv
 |.wb _ _ _=>lkA A.ha 1000000
 |.vA _|.box _ _=>match o.dst with
  |some d=>lkA A.ha (2000000+d)
  |none=>none
 |_=>none⟩
def zdA{α:Type}:List α->Nat->Option α
 |[],_=>none
 |a::_,0=>some a
 |_::r,n+1=>zdA r n
def an(A:An):XC->Nat->Nat->FC×Nat×Nat
 |.skip,s,l=>(.skip,s,l)
 |.ret,s,l=>(.ret,s,l)
 |.exit i,s,l=>(.exit i,s,l)
 |.wH e,s,l=>(.wH (e.map (zdz A)),s,l)
 |.draw e m,s,l=>(match zdA A.lp l with
  |some (.d n)=>.draw n (e.map (zdz A)) m
  |_=>.qQ (e.map (zdz A)) m,s,l+1)
 |.seq a b,s,l=>match an A a (s+1) l with
  |(a,f,g)=>match an A b f g with
   |(b,h,j)=>(match lkA A.sj s with
    |some (id,c)=>.wg id c a b
    |none=>.seq a b,h,j)
 |.cond c a b,s,l=>match an A a s l with
  |(a,f,g)=>match an A b f g with
   |(b,h,j)=>(.cond c a b,h,j)
 |.block i b,s,l=>match an A b s l with
  |(b,f,g)=>(.block i b,f,g)
 |.loop b,s,l=>match an A b s (l+1)with
  |(b,f,g)=>(match zdA A.lp l with
   |some (.u k)=>.qB k b
   |some (.c id c)=>.loop id c b
   |_=>.skip,f,g)
 |.wR ..,s,l=>(.skip,s,l)
def mkX(P:Program)(fn:Func)(A:An):FFn:=match compF P fn with
 |some a=>⟨a.np,a.nt,(an A a.body 0 0).1,a.res⟩
 |none=>⟨0,0,.skip,[]⟩
structure Tb(P:Program)(G:Cx) where
 T:Nat->TbF
 O:Nat->TbH
 T0:Nat->TbF
 O0:Nat->TbH
 g:Grp
 ok:∀U,TabOK P G (T U) (O U)
variable{P:Program}{G:Cx}
def Tb.nil:Tb P G:=⟨λ_=>[],λ_=>[],λ_=>[],λ_=>[],⟨[],[]⟩,λ_=>TabOK.nil⟩
def Tb.add(t:Tb P G)(r:Bool)(g:Grp)(b:GrpOK P g)(c:GPP G)(hm:zCa P G)(a:P.follows .mixedOrders=true):Tb P G:=
 ⟨λU=>zaK U G (t.T U) (t.O U) g (match r with|true=>U|false=>1),λU=>zaL U G (t.T U) (t.O U) g (match r with|true=>U|false=>1),t.T,t.O,g,λU=>(t.ok U).add b c hm a _⟩
def Tb.ext(t:Tb P G){f:Nat}{g:JE->JF}(a:zG7 P G f g):Tb P G:=
 ⟨λU=>(f,g)::t.T U,t.O,t.T,t.O,⟨[],[]⟩,λU=>(t.ok U).ext a⟩
def Tb.uq(t:Tb P G){e:FEnt}(a:FOK P G e):Tb P G:=
 ⟨t.T,λU=>e::t.O U,t.T,t.O,⟨[],[]⟩,λU=>(t.ok U).uq a⟩
noncomputable def gV(t:Tb P G)(n f:Nat):JE->JF:=gv ze G (t.T0 ze) (t.O0 ze) t.g n f
noncomputable def gO(t:Tb P G)(n f:Nat):JE->Heap->Vecs->Option (AV×Heap×Vecs):=go ze G (t.T0 ze) (t.O0 ze) t.g n f
noncomputable def fV(t:Tb P G)(d id:Nat)(x:FFn):JV->JE->Heap->Vecs->JF:=zOj ze G (zaK ze G (t.T0 ze) (t.O0 ze) t.g d) (zaL ze G (t.T0 ze) (t.O0 ze) t.g d) id x.fc (zaI x.res)
noncomputable def fO(t:Tb P G)(d id:Nat)(x:FFn)(pn:JV):JV->JE->Heap->Vecs->Option (AV×Heap×Vecs):=zOj ze G (zaK ze G (t.T0 ze) (t.O0 ze) t.g d) (zaL ze G (t.T0 ze) (t.O0 ze) t.g d) id x.fc (zQw x.res pn)
end Go.Sy
namespace Go.Sy
def Wp{β:Type}(o:Option β)(P:β->Prop):Prop:=∃x,o=some x/\P x
section
variable{α β:Type}{P Q:β->Prop}
theorem Wp.mk{x:β}(h:P x):Wp (Option.some x) P:=⟨x,rfl,h⟩
theorem zeK{x:β}:Wp (Option.some x) P↔P x:=⟨λ⟨_,e,h⟩=>by cases e;exact h,λh=>⟨x,rfl,h⟩⟩
theorem zZi:Wp (none:Option β) P↔False:=⟨λ⟨_,e,_⟩=>(by cases e),False.elim⟩
theorem zdN{b:Bool}{x y:Option β}:Wp (br b x y) P↔(b=true->Wp x P)/\(b=false->Wp y P):=by cases b<;>simp[br]
theorem zgy{b:Bool}{x:Option β}:Wp (gd b x) P↔b=true/\Wp x P:=by cases b<;>simp[gd,zZi]
theorem zgz{o:Option α}{f:α->Option β}:Wp (bd o f) P↔Wp o λa=>Wp (f a) P:=by
 cases o with
 |none=>simp[bd,zZi]
 |some a=>simp[bd,zeK]
theorem Wp.mono{o:Option β}(h:Wp o P)(k:∀x,P x->Q x):Wp o Q:=let ⟨x,e,q⟩:=h;⟨x,e,k x q⟩
theorem Wp.if{b:Bool}{x y:Option β}(h1:b=true->Wp x P)(a:b=false->Wp y P):Wp (br b x y) P:=zdN.2 ⟨h1,a⟩
theorem Wp.ite{p:Prop}[Decidable p]{x y:Option β}(h1:p->Wp x P)(a:¬p->Wp y P):Wp (br (decide p) x y) P:=zdN.2 ⟨λh=>h1 (QP h),λh=>a (Qk h)⟩
theorem Wp.gd{p:Prop}[Decidable p]{x:Option β}(h1:p)(a:Wp x P):Wp (gd (decide p) x) P:=zgy.2 ⟨QM h1,a⟩
theorem Wp.bd{o:Option α}{R:α->Prop}{f:α->Option β}(h:Wp o R)(k:∀a,R a->Wp (f a) P):Wp (bd o f) P:=zgz.2 (h.mono k)
theorem zJ4{x y:Option β}:br true x y=x:=rfl
theorem zAP{x y:Option β}:br false x y=y:=rfl
theorem zXJ{a:α}{f:α->Option β}:Go.Sy.bd (Option.some a) f=f a:=rfl
end
section
variable{β:Type}{P:β->Prop}{wk:Bool}
end
theorem zm{n:Int}(h1:-9223372036854775808<=n)(a:n<=9223372036854775807):wrapx .i64 n=n:=by
 cases n with
 |ofNat m=>
  have:Nat.ble m 9223372036854775807=true:=by rw[Qt];rw[qJ]at a;omega
  simp only[wrapx,this,cond]
 |negSucc m=>
  have:Nat.ble m 9223372036854775807=true:=by rw[Qt];omega
  simp only[wrapx,this,cond]
theorem zd{i:Nat}(h:i<9223372036854775807):wrapx .i64 (Int.ofNat i+1)=Int.ofNat (i+1):=zm (by rw[qJ];omega) (by rw[qJ];omega)
theorem zJ5{α:Type}{l:List α}{i:Nat}:ixN l (Int.ofNat i)=l[i]?:=rfl
section
variable{β:Type}{P:β->Prop}{wk:Bool}
theorem Wp.lt{i l:Nat}{x y:Option β}(h1:i<l->Wp x P)(b:l<=i->Wp y P):Wp (br (decide (Int.ofNat i<Int.ofNat l)) x y) P:=
 Wp.ite (λh=>h1 (Int.ofNat_lt.1 h)) λh=>b (Nat.le_of_not_lt λa=>h (Int.ofNat_lt.2 a))
theorem zIF{α:Type}{l:List α}{av:α->AV}{i:Nat}(h:i<l.length):ixN (l.map av) (Int.ofNat i)=some (av l[i]):=by
 show(l.map av)[i]? = _
 rw[Qn,QF h];rfl
theorem zAS{α:Type}{l:List α}{i:Nat}(h:i<l.length):ixN l (Int.ofNat i)=some l[i]:=QF h
theorem zUu{s:JV}{i:Nat}(h:i<s.length):ldE (s.map λb=>AV.int .u8 (.ofNat b)) (Int.toNat (Int.ofNat i)) 0 1 false=some (.int .u8 (.ofNat s[i])):=by
 show(match(s.map λb=>AV.int .u8 (.ofNat b))[i]? with|some e=>part e.cells 0 1 false|none=>none)=_
 rw[Qn,QF h];rfl
theorem zHT{i l:Nat}{x:Option β}(h:i<l)(hx:Wp x P):Wp (Go.Sy.gd (decide (0<=Int.ofNat i/\Int.ofNat i<Int.ofNat l)) x) P:=
 Wp.gd ⟨QU _,Int.ofNat_lt.2 h⟩ hx
end
theorem zk{n:Nat}(h:n<=9223372036854775807):n<ze:=by rw[zE3];omega
theorem zA8{i:Nat}(a:0<i)(h:i<=9223372036854775807):wrapx .i64 (Int.ofNat i-1)=Int.ofNat (i-1):=by
 rw[zm (by rw[qJ];omega) (by rw[qJ];omega),qJ,qJ];omega
end Go.Sy
