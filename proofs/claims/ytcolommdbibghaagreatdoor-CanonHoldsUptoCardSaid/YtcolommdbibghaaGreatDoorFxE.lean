/- A LIBRARY: WHAT A FUNCTION'S CODE RECKONS, AS A LEAN FUNCTION, AND THAT ITS WORD IS THE MODEL'S: part 5 of 6. No condition. -/
import Derived.Test.YtcolommdbibghaaGreatDoorFxD
set_option linter.unusedVariables false
set_option linter.unusedSimpArgs false
namespace Go.Sy
theorem zSL{β:Type}{b:Bool}{x:Option β}{r:β}(h:gd b x=some r):b=true/\x=some r:=by
 cases b
 .cases h
 .exact⟨rfl,h⟩
theorem zBt{β:Type}{p:Prop}[Decidable p]{x:Option β}{r:β}(h:gd (decide p) x=some r):p/\x=some r:=
 let ⟨a,b⟩:=zSL h;⟨Qc a,b⟩
theorem zJg{β:Type}{b:Bool}{x y:Option β}{r:β}(h:br b x y=some r):(b=true/\x=some r)\/(b=false/\y=some r):=by
 cases b
 .exact .inr ⟨rfl,h⟩
 .exact .inl ⟨rfl,h⟩
theorem zHp{α β:Type}{o:Option α}{f:α->Option β}{r:β}(h:bd o f=some r):∃a,o=some a/\f a=some r:=by
 cases o with
 |none=>cases h
 |some a=>exact⟨a,rfl,h⟩
theorem zHY{β:Type}{t:Nat}{c:Bool}{st:Sta}{k:Bool->Sta->Option β}{r:β}(h:brF t c st k=some r):k c ⟨st.fr.put t (.bool c),st.H,st.V,st.m,st.mv⟩=some r:=by
 rcases zJg h with⟨rfl,h⟩|⟨rfl,h⟩<;>exact h
def WKs(vs a:JE):Prop:=vs.length=a.length/\∀(i:Nat) v u,vs[i]?=some v->a[i]?=some u->WK v u
theorem WKs.wQ{vs:JE}:WKs vs vs:=⟨rfl,λi v u h a=>by rw[h]at a;cases a;exact .refl _⟩
theorem WKs.nil{c:JE}(h:WKs [] c):c=[]:=by
 cases c with
 |nil=>rfl
 |cons a b=>exact absurd h.1 (by simp)
theorem WKs.cons{v u:AV}{vs e:JE}(h:WK v u)(f:WKs vs e):WKs (v::vs) (u::e):=⟨by simp[f.1],λi a b c d=>by
 cases i with
 |zero=>simp at c d;subst c;subst d;exact h
 |succ i=>exact f.2 i a b (by simpa using c) (by simpa using d)⟩
theorem WKs.vq{v:AV}{vs c:JE}(h:WKs (v::vs) c):∃u d,c=u::d/\WK v u/\WKs vs d:=by
 cases c with
 |nil=>exact absurd h.1 (by simp)
 |cons u c=>exact⟨u,c,rfl,h.2 0 v u rfl rfl,by simpa using h.1,λi a b e f=>h.2 (i+1) a b (by simpa using e) (by simpa using f)⟩
theorem WKs.split{a b e:JE}(h:WKs (a++b) e):WKs a (e.take a.length)/\WKs b (e.drop a.length):=by
 obtain⟨h1,f⟩:=h;rw[QJ]at h1;refine⟨⟨by rw[Qm];omega,λi v u d c=>?_⟩,⟨by rw[Qv];omega,λi v u d c=>?_⟩⟩
 .have g:=(QC.1 d).1;rw[List.getElem?_take,if_pos g]at c;exact f i v u (by rw[Qp g];exact d) c
 .rw[List.getElem?_drop]at c;exact f (a.length+i) v u (by rw[List.getElem?_append_right (by omega)];simpa using d) c
theorem zO5:∀{a b:List (AV×AV)},zLO a=zLO b->a=b
 |[],[],_=>rfl
 |[],(k,v)::b,h=>by cases h
 |(k,v)::a,[],h=>by cases h
 |(k,v)::a,(d,c)::b,h=>by
  simp only[zLO,List.cons.injEq]at h;obtain⟨rfl,rfl,h⟩:=h;rw[zO5 h]
theorem zAl{β:Type}{r:β}:∀{ds:List D}{wk:Bool}{F:JE->Heap->Vecs->Option β}{vs:JE}{H:Heap}{V:Vecs},din wk ds (zD9 ds F) vs H V=some r->∃f,WKs vs f/\(wk=false->f=vs)/\F f H V=some r
 |[],wk,F,vs,H,V,h=>by
  cases vs with
  |nil=>
   cases H with
   |nil=>
    cases V with
    |nil=>exact⟨[],.wQ,λ_=>rfl,h⟩
    |cons=>cases h
   |cons=>cases h
  |cons=>cases h
 |.v .b::ds,wk,F,vs,H,V,h=>by
  cases vs with
  |nil=>cases h
  |cons v vs=>
   cases v<;>first|(cases h;done)|skip
   obtain⟨f,h1,d,a⟩:=zAl (ds:=ds) h;exact⟨_,.cons (.refl _) h1,λe=>by rw[d e],a⟩
 |.v (.i k)::ds,wk,F,vs,H,V,h=>by
  cases vs with
  |nil=>cases h
  |cons v vs=>
   cases v<;>first|(cases h;done)|skip
   rename_i K n;simp only[din]at h;split at h
   .rename_i e;have:=zFb e;subst this;obtain⟨f,h1,d,a⟩:=zAl (ds:=ds) h;exact⟨_,.cons (.refl _) h1,λe=>by rw[d e],a⟩
   .cases h
 |.v .s::ds,wk,F,vs,H,V,h=>by
  cases vs with
  |nil=>cases h
  |cons v vs=>
   cases v<;>first|(cases h;done)|skip
   obtain⟨f,h1,d,a⟩:=zAl (ds:=ds) h;exact⟨_,.cons (.refl _) h1,λe=>by rw[d e],a⟩
 |.v (.l B)::ds,wk,F,vs,H,V,h=>by
  cases vs with
  |nil=>cases h
  |cons v vs=>
   cases v<;>first|(cases h;done)|skip
   .simp only[din]at h;split at h
    .obtain⟨f,h1,d,a⟩:=zAl (ds:=ds) h;exact⟨_,.cons (.nil _) h1,λe=>by simp_all,a⟩
    .cases h
   .simp only[din]at h;split at h
    .rename_i e;have:=zb e;subst this;obtain⟨f,h1,d,a⟩:=zAl (ds:=ds) h;exact⟨_,.cons (.refl _) h1,λe=>by rw[d e],a⟩
    .cases h
 |.v .av::ds,wk,F,vs,H,V,h=>by
  cases vs with
  |nil=>cases h
  |cons v vs=>
   obtain⟨f,h1,d,a⟩:=zAl (ds:=ds) h;exact⟨_,.cons (.refl _) h1,λe=>by rw[d e],a⟩
 |.v (.c u)::ds,wk,F,vs,H,V,h=>by
  cases vs with
  |nil=>cases h
  |cons v vs=>
   simp only[din]at h;split at h
   .rename_i e;have:=zKL 20 _ _ e;subst this;obtain⟨f,h1,d,a⟩:=zAl (ds:=ds) h;exact⟨_,.cons (.refl _) h1,λe=>by rw[d e],a⟩
   .cases h
 |.v (.agg n)::ds,wk,F,vs,H,V,h=>by
  cases vs with
  |nil=>cases h
  |cons v vs=>
   cases v<;>first|(cases h;done)|skip
   rename_i C;simp only[din]at h;split at h
   .rename_i e;have:=zb e;subst this;obtain⟨f,h1,d,a⟩:=zAl (ds:=ds) h;obtain⟨m,z⟩:=h1.split;exact⟨_,.cons (.agg m.1 m.2) z,λe=>by rw[d e];simp,a⟩
   .cases h
 |.v (.qg n)::ds,wk,F,vs,H,V,h=>by
  cases vs with
  |nil=>cases h
  |cons v vs=>
   cases v<;>first|(cases h;done)|skip
   rename_i C;simp only[din]at h;split at h
   .rename_i e;have:=zb e;subst this;obtain⟨f,h1,d,a⟩:=zAl (ds:=ds) h;obtain⟨m,z⟩:=h1.split;exact⟨_,.cons (.qg m.1 m.2) z,λe=>by rw[d e];simp,a⟩
   .cases h
 |.v (.ep off)::ds,wk,F,vs,H,V,h=>by
  cases vs with
  |nil=>cases h
  |cons v vs=>
   cases v<;>first|(cases h;done)|skip
   simp only[din]at h;split at h
   .rename_i e;have:=zb e;subst this;obtain⟨f,h1,d,a⟩:=zAl (ds:=ds) h;obtain⟨u,y,rfl,w,A⟩:=h1.vq;exact⟨_,.cons (.qc _ w) A,λe=>by have:=d e;simp_all,a⟩
   .cases h
 |.v (.uR t)::ds,wk,F,vs,H,V,h=>by
  cases vs with
  |nil=>cases h
  |cons v vs=>
   cases v<;>first|(cases h;done)|skip
   simp only[din]at h;split at h
   .rename_i e;have:=zb e;subst this;obtain⟨f,h1,d,a⟩:=zAl (ds:=ds) h;obtain⟨u,y,rfl,w,A⟩:=h1.vq;exact⟨_,.cons (.iface _ w) A,λe=>by have:=d e;simp_all,a⟩
   .cases h
 |.hc L str n::ds,wk,F,vs,H,V,h=>by
  cases vs with
  |cons=>cases h
  |nil=>
   cases H with
   |nil=>cases h
   |cons p H=>
    obtain⟨J,o⟩:=p;cases o<;>first|(cases h;done)|skip
    simp only[din]at h;split at h
    .rename_i e;simp only[qr,beq_iff_eq]at e;obtain⟨⟨q,g⟩,I⟩:=e;have:=zb q;subst this;subst g;obtain⟨f,h1,d,a⟩:=zAl (ds:=ds) h;rw[d rfl]at a;exact⟨[],.wQ,λ_=>rfl,a⟩
    .cases h
 |.vec j B::ds,wk,F,vs,H,V,h=>by
  cases vs with
  |cons=>cases h
  |nil=>
   cases V with
   |nil=>cases h
   |cons p V=>
    obtain⟨x,o⟩:=p;cases o<;>first|(cases h;done)|skip
    simp only[din]at h;split at h
    .rename_i e;simp only[qr]at e;obtain⟨q,g⟩:=e;have:=zb q;subst this;have:=zb g;subst this;obtain⟨f,h1,d,a⟩:=zAl (ds:=ds) h;rw[d rfl]at a;exact⟨[],.wQ,λ_=>rfl,a⟩
    .cases h
 |.mp j::ds,wk,F,vs,H,V,h=>by
  cases vs with
  |cons=>cases h
  |nil=>
   cases V with
   |nil=>cases h
   |cons p V=>
    obtain⟨x,o⟩:=p;cases o<;>first|(cases h;done)|skip
    simp only[din]at h;split at h
    .rename_i e;have:=zb e;subst this;obtain⟨f,h1,d,a⟩:=zAl (ds:=ds) h;rw[d rfl]at a;exact⟨[],.wQ,λ_=>rfl,a⟩
    .cases h
 |.uQ j E::ds,wk,F,vs,H,V,h=>by
  cases vs with
  |cons=>cases h
  |nil=>
   cases V with
   |nil=>cases h
   |cons p V=>
    obtain⟨x,o⟩:=p;cases o<;>first|(cases h;done)|skip
    simp only[din]at h;split at h
    .rename_i e;rw[qr]at e;have:=zb e.1;subst this;have:=zO5 (AV.agg.inj (zKL 20 _ _ e.2));subst this;obtain⟨f,h1,d,a⟩:=zAl (ds:=ds) h;rw[d rfl]at a;exact⟨[],.wQ,λ_=>rfl,a⟩
    .cases h
 |.vn j B n::ds,wk,F,vs,H,V,h=>by
  cases vs with
  |cons=>cases h
  |nil=>
   cases V with
   |nil=>cases h
   |cons p V=>
    obtain⟨x,o⟩:=p;cases o<;>first|(cases h;done)|skip
    simp only[din]at h;split at h
    .rename_i e;simp only[qr]at e;obtain⟨q,g,I⟩:=e;have:=zb q;subst this;have:=zb g;subst this;obtain⟨f,h1,d,a⟩:=zAl (ds:=ds) h;rw[d rfl]at a;exact⟨[],.wQ,λ_=>rfl,a⟩
    .cases h
theorem zRh{β:Type}{e:Bool}{kd:List Kd}{a:AV}{r:β}:∀{es:List (AV×AV)}{k:JF->Option β},lkB e kd a es k=some r->∃o,zCV e kd a es=some o/\k o=some r
 |[],k,h=>⟨none,rfl,h⟩
 |(j,v)::es,k,h=>by
  simp only[lkB]at h;split at h
  .rename_i b d;cases b with
   |true=>exact⟨some v,by simp only[zCV,d],h⟩
   |false=>
    obtain⟨o,h1,g⟩:=zRh (es:=es) (k:=k) h;exact⟨o,by simp only[zCV,d];exact h1,g⟩
  .cases h
theorem zJh{β:Type}{wk:Bool}{a:List K}{o:JF}{k:AV->Option β}{r:β}(h:dK wk a o (dko a k)=some r):∃v u,o=some v/\WK v u/\(wk=false->u=v)/\k u=some r:=by
 cases o with
 |none=>cases h
 |some v=>
  obtain⟨i,h1,c,f⟩:=zAl h;obtain⟨u,d,rfl,b,g⟩:=h1.vq;have:=g.nil;subst this;exact⟨v,u,rfl,b,λe=>by have:=c e;simp_all,f⟩
theorem zXS{β:Type}{wk:Bool}{ds:List D}{o:Option (AV×Heap×Vecs)}{k:AV->Heap->Vecs->Option β}{r:β}(h:dD wk ds o (ddo ds k)=some r):∃v u H V,o=some (v,H,V)/\WK v u/\(wk=false->u=v)/\k u H V=some r:=by
 cases o with
 |none=>cases h
 |some p=>
  obtain⟨v,H,V⟩:=p;obtain⟨g,h1,b,d⟩:=zAl h;obtain⟨u,c,rfl,a,f⟩:=h1.vq;have:=f.nil;subst this;exact⟨v,u,H,V,rfl,a,λe=>by have:=b e;simp_all,d⟩
def VIP:VI->Prop
 |.vec _ a=>∀e∈a,PP e
 |.mp a=>∀p∈a,PP p.1/\PP p.2
 |.qU _ _ _=>True
 |.dn _=>True
structure CPS(st:Sta):Prop where
 fr:zCx st.mv st.m st.fr
 H:HCP st.mv st.m st.H
 V:∀j vi,st.V.get j=some vi->j<st.mv/\VIP vi
 lt:∀p∈st.H,p.1<st.m
theorem CPS.w9{st:Sta}(s:CPS st){vi:VI}(h:VIP vi):CPS ⟨st.fr,st.H,(st.mv,vi)::st.V,st.m,st.mv+1⟩:=
 ⟨s.fr.mono (QT _) (QA _),s.H.mono (QT _) (QA _),λj v a=>by
  rw[Vecs.qf]at a;split at a
  .rename_i e;cases a;exact⟨by show j<st.mv+1;omega,h⟩
  .have:=s.V j v a;exact⟨Nat.lt_succ_of_lt this.1,this.2⟩,s.lt⟩
theorem CPS.u6{st:Sta}(s:CPS st){j n:Nat}(b:j<st.mv):CPS ⟨st.fr,st.H,(j,.dn n)::st.V,st.m,st.mv⟩:=
 ⟨s.fr,s.H,λi v a=>by
  rw[Vecs.qf]at a;split at a
  .rename_i e;subst e;cases a;exact⟨b,trivial⟩
  .exact s.V i v a,s.lt⟩
theorem CPS.uJ{st:Sta}(s:CPS st){j:Nat}{vi:VI}(b:j<st.mv)(h:VIP vi):CPS ⟨st.fr,st.H,(j,vi)::st.V.del j,st.m,st.mv⟩:=
 ⟨s.fr,s.H,λi v a=>by
  rw[Vecs.qf]at a;split at a
  .rename_i e;subst e;cases a;exact⟨b,h⟩
  .rw[Vecs.qL]at a;split at a
   .cases a
   .exact s.V i v a,s.lt⟩
theorem CPS.uT{st:Sta}(s:CPS st){j:Nat}{vi:VI}(h:VIP vi):CPS ⟨st.fr,st.H,(st.mv,vi)::st.V.del j,st.m,st.mv+1⟩:=
 ⟨s.fr.mono (QT _) (QA _),s.H.mono (QT _) (QA _),λi v a=>by
  rw[Vecs.qf]at a;split at a
  .rename_i e;cases a;exact⟨by show i<st.mv+1;omega,h⟩
  .rw[Vecs.qL]at a;split at a
   .cases a
   .have:=s.V i v a;exact⟨Nat.lt_succ_of_lt this.1,this.2⟩,s.lt⟩
theorem CPS.put{st:Sta}(s:CPS st){n:Nat}{v:AV}(h:CP st.mv st.m v):CPS ⟨st.fr.put n v,st.H,st.V,st.m,st.mv⟩:=
 ⟨λt u e=>by
  rw[Fr.qu]at e;split at e
  .cases e;exact h
  .exact s.fr t u e,s.H,s.V,s.lt⟩
theorem CPS.qv{st:Sta}(s:CPS st){d:Option Nat}{v:AV}(h:CP st.mv st.m v):CPS (st.put d v):=by
 cases d with
 |none=>exact s
 |some n=>exact s.put h
def tbS(tb:TbF):TblS:=tb.map λs=>(s.1,(λargs=>∀x∈args,PP x),s.2)
theorem zRi{tb:TbF}{f:Nat}{g:JE->JF}{args:JE}{v:AV}{k:AV->Prop}(a:zGv tb f=some g)(d:g args=some v)(b:∀x∈args,PP x)(hk:k v):zEF (tbS tb) f args k:=by
 induction tb with
 |nil=>cases a
 |cons s r c=>
  simp only[zGv]at a;simp only[tbS,Qa,zEF];split at a
  .rename_i e;cases a;simp only[e,d];exact⟨b,hk⟩
  .rename_i e;simp only[e];exact c a
theorem zU1{tb:TbF}{f:Nat}{g:JE->JF}(h:zGv tb f=some g):(f,g)∈tb:=by
 induction tb with
 |nil=>cases h
 |cons s r a=>
  simp only[zGv]at h;split at h
  .rename_i e;cases h;rw[zb e];exact .head _
  .exact .tail _ (a h)
structure Stp{β:Type}(G:Cx)(tb:TbF)(st:Sta)(wk:Bool)(k:AV->Sta->Option β)(r:β)(W:(AV->Sta->Prop)->Prop)(v u:AV)(st':Sta):Prop where
 k:k u st'=some r
 vS:WK v u
 eq:wk=false->u=v
 cp:CP st'.mv st'.m u
 vj:CPS st'
 w:∀C:AV->Sta->Prop,C v st'->W C
 le:st.mv<=st'.mv
section
variable{β:Type}{P:Program}{G:Cx}{tb:TbF}{st:Sta}{k:AV->Sta->Option β}{r:β}{wk:Bool}
theorem zVU{H:Heap}{sz n m:Nat}{u:AV}{g:JE}(hH:HCP n m H)(f:CP n m u)(a:zAO H sz u=some g)(c:(zIp u||ppS 12 (.agg g))=true):∀e∈g,PP e:=by
 rw[Bool.or_eq_true]at c;rcases c.symm with c|c
 .have j:CP n m (.agg g):=by
   refine .agg _ λe d=>?_
   cases u with
   |qa=>cases a;cases d
   |qo l A=>
    simp only[zAO]at a;split at a
    .cases a;cases f with
     |qo _ _ h=>exact(h e d).cp
    .cases a
   |row=>
    simp only[zAO]at a;split at a
    .split at a
     .rename_i str I t;split at a
      .obtain⟨_,K,_,J,x⟩:=z4 a;obtain⟨i,B⟩:=List.getElem?_of_mem d;obtain⟨F,C⟩:=zQ x;obtain⟨E,v,w⟩:=zI (C i e B);obtain⟨p,y,D,o⟩:=hH.get t;cases D;refine zBD w λz q=>o z ?_
       rw[v]at q;exact QW (QM (QW (QM q)))
      .cases a
     .cases a
    .cases a
   |str s=>
    simp only[zAO]at a;split at a
    .cases a;obtain⟨b,_,rfl⟩:=QL.1 d;exact .int _ _
    .cases a
   |_=>cases a
  have:=zBM 12 j c;cases this with
  |agg _ h=>exact h
 .cases u with
  |qo l A=>
   simp only[zAO]at a;split at a
   .cases a;cases f with
    |qo _ _ h=>exact h
   .cases a
  |str s=>
   simp only[zAO]at a;split at a
   .cases a;intro e d;obtain⟨b,_,rfl⟩:=QL.1 d;exact .int _ _
   .cases a
  |_=>cases c
theorem zO6{sz len n m:Nat}{cs es:JE}(l:zCt sz len cs=some es)(a:∀c∈cs,CP n m c)(h:es.all (ppS 12)=true):∀e∈es,PP e:=by
 obtain⟨h1,q,u,s,f⟩:=z4 l;intro e d;obtain⟨i,o⟩:=List.getElem?_of_mem d;obtain⟨q1,p⟩:=zQ f;obtain⟨t,j,g⟩:=zI (p i e o);refine zBM (n:=n) (k:=m) 12 (zBD g λx b=>a x ?_) (QD.1 h e d)
 rw[j]at b;exact QM (QW (QM b))
theorem zRj{j:Bool}{kd:List Kd}{e:AV}:∀{es:List (AV×AV)}{u:AV},(∀p∈es,PP p.1/\PP p.2)->zCV j kd e es=some (some u)->PP u:=by
 intro es
 induction es with
 |nil=>intro u _ h;cases h
 |cons q r g=>
  intro u a h;simp only[zCV]at h;split at h
  .cases h;exact(a _ (.head _)).2
  .exact g (λp d=>a p (.tail _ d)) h
  .cases h
theorem zXT{o:Bool}{kd:List Kd}{l u:AV}(g:PP l)(e:PP u):∀{es d:List (AV×AV)},(∀p∈es,PP p.1/\PP p.2)->zFT o kd l u es=some d->∀p∈d,PP p.1/\PP p.2:=by
 intro es
 induction es with
 |nil=>intro d _ h p a;cases h;simp only[QY]at a;subst a;exact⟨g,e⟩
 |cons q r n=>
  intro d j h p a;simp only[zFT]at h;split at h
  .cases h;rcases QG.1 a with rfl|a
   .exact⟨g,e⟩
   .exact j p (.tail _ a)
  .split at h
   .rename_i t m;cases h;rcases QG.1 a with rfl|a
    .exact j _ (.head _)
    .exact n (λp a=>j p (.tail _ a)) m p a
   .cases h
  .cases h
theorem zMc{n:Int}{lo b:JF}{k:Int->Int->Option β}(h:zNG n lo b k=some r):∃l u,k l u=some r/\∀C:Int->Int->Prop,C l u->zGJ n lo b C:=by
 unfold zNG at h;split at h
 .split at h
  .exact⟨_,_,h,λC hc=>hc⟩
  .obtain⟨h1,a⟩:=zBt h;exact⟨_,_,a,λC hc=>⟨h1,hc⟩⟩
  .cases h
 .split at h
  .obtain⟨h1,a⟩:=zBt h;exact⟨_,_,a,λC hc=>⟨h1,hc⟩⟩
  .obtain⟨h1,a⟩:=zBt h;exact⟨_,_,a,λC hc=>⟨h1,hc⟩⟩
  .cases h
 .cases h
theorem zEY{n:Int}:∀{l:Nat}{k:Nat->Option β},zJe n l k=some r->∃m,m<l/\n=.ofNat m/\k m=some r
 |0,k,h=>by cases h
 |l+1,k,h=>by
  rcases zJg h with⟨e,h⟩|⟨_,h⟩
  .exact⟨l,QR _,Qc e,h⟩
  .obtain⟨m,h1,a,b⟩:=zEY h;exact⟨m,Nat.lt_succ_of_lt h1,a,b⟩
theorem zIA{n:Int}{m:Nat}(a:n=.ofNat m):∀{l:Nat}{C:Nat->Prop},C m->zFN n l C
 |0,C,_=>trivial
 |l+1,C,h=>⟨zIA a h,λe=>by
  have:m=l:=by rw[a]at e;exact Int.ofNat.inj e
  exact this▸h⟩
theorem zO7{f:Nat}{vs:JE}{F:List K}(p:TbW P G (tbS tb))(s:CPS st)(j:∀x∈vs,CP st.mv st.m x)(h:zPS wk tb f vs F st k=some r):∃v u D,Stp G tb st wk k r (zBV (tbS tb) f vs st) v u D:=by
 have key:∀{args:JE}{B:AV->Option β},(∀x∈args,PP x)->zPJ wk tb f args F B=some r->∃v u,PP v/\WK v u/\(wk=false->u=v)/\B u=some r/\∀C:AV->Prop,C v->zEF (tbS tb) f args C:=λ{args B} c h=>by
  unfold zPJ at h;split at h
  .rename_i g z;have o:=zU1 z;have l:(f,(λargs:JE=>∀x∈args,PP x),g)∈tbS tb:=QL.2 ⟨_,o,rfl⟩
   split at h
   .obtain⟨v,h1,b⟩:=zHp h;exact⟨v,v,(p _ l args v c h1).2.1,.refl _,λ_=>rfl,b,λC hc=>zRi z h1 c hc⟩
   .obtain⟨v,u,h1,b,n,d⟩:=zJh h;exact⟨v,u,(p _ l args v c h1).2.1,b,n,d,λC hc=>zRi z h1 c hc⟩
  .cases h
 unfold zPS at h;split at h
 .rename_i q;have c:∀x∈vs,PP x:=λx t=>zHn 8 (j x t) (by have:=List.any_eq_false.1 q x t;simpa using this)
  obtain⟨v,u,h1,b,n,d,A⟩:=key c h;exact⟨v,u,st,d,b,n,(b.pp h1).cp,s,λC hc=>by unfold zBV;simp only[q];exact A _ hc,(by first|exact QA _|exact QT _)⟩
 .rename_i q;split at h
  .rename_i e a;have c:∀x∈e,PP x:=by
    obtain⟨m1,m2⟩:=zAz a;intro x t;obtain⟨i,H⟩:=List.getElem?_of_mem t;have w:i<vs.length:=by have:=(QC.1 H).1;omega
    have I:=QE w;exact frz_pp s 8 (j _ (QF I)) (m2 i _ x I H)
   obtain⟨v,u,h1,b,n,d,A⟩:=key c h;split at d
   .rename_i E;have y:zBe 8 v=true:=scalar_wk 8 b E;exact⟨v,u,st,d,b,n,(b.pp h1).cp,s,λC hc=>by unfold zBV;simp only[q,a];exact A _ (by simp only[y];exact hc),(by first|exact QA _|exact QT _)⟩
   .cases d
  .cases h
where
 scalar_wk:∀(d:Nat){v u:AV},WK v u->zBe d u=true->zBe d v=true:=by
  intro d
  induction d with
  |zero=>intro v u _ h;cases h
  |succ d ih=>
   intro v u hw h;have al:∀{cs cs':JE},cs.length=cs'.length->(∀(i:Nat) c c',cs[i]?=some c->cs'[i]?=some c'->WK c c')->cs'.all (zBe d)=true->cs.all (zBe d)=true:=λhl hi ha=>by
    rw[QD]at ha⊢;intro c hc;obtain⟨i,hi'⟩:=List.getElem?_of_mem hc;have hlt:=(QC.1 hi').1;have h2:=QE (show i<_ from hl▸hlt)
    exact ih (hi i c _ hi' h2) (ha _ (QF h2))
   cases hw with
   |refl=>exact h
   |nil=>cases h
   |qc=>cases h
   |iface t hw=>exact ih hw h
   |agg hl hi=>exact al hl hi h
   |qg hl hi=>exact al hl hi h
 frz_pp {st:Sta} (s:CPS st):∀(d:Nat){v v':AV},CP st.mv st.m v->frz st.H st.V d v=some v'->PP v':=by
  intro d
  induction d with
  |zero=>intro v v' _ h;cases h
  |succ d ih=>
   intro v v' hcp h;have al:∀{l l':JE},(∀e∈l,CP st.mv st.m e)->zp (frz st.H st.V d) l=some l'->∀e∈l',PP e:=λhl hm=>by
    obtain⟨m1,m2⟩:=zAz hm;intro x hx;obtain⟨i,hi⟩:=List.getElem?_of_mem hx;have hlt:=(QC.1 hi).1;have hv:=QE (show i<_ from m1▸hlt)
    exact ih (hl _ (QF hv)) (m2 i _ x hv hi)
   unfold frz at h;split at h
   .split at h
    .rename_i hV;cases h;exact .qo _ _ (s.V _ _ hV).2
    .cases h
   .split at h
    .rename_i hg;obtain⟨str,cs,e,hc⟩:=s.H.get hg;cases e;split at h
     .rename_i cs' hcs;cases h;exact .qc _ _ (.agg _ (al hc hcs))
     .cases h
    .cases h
   .cases hcp with
    |func _ _ _ ha hb=>
     split at h
     .rename_i a' hA;split at h
      .rename_i b' hB;cases h;exact .func _ _ _ (al ha hA) (al hb hB)
      .cases h
     .cases h
   .cases hcp with
    |agg _ hc=>
     split at h
     .rename_i cs' hcs;cases h;exact .agg _ (al hc hcs)
     .cases h
   .split at h
    .rename_i hg;obtain⟨str,cs,e,hc⟩:=s.H.get hg;cases e;split at h
     .split at h
      .rename_i hre;split at h
       .rename_i hpp;cases h;refine .qo _ _ λe he=>?_
        obtain⟨h1,h2,h3,h4,h5⟩:=z4 hre;obtain⟨i,hi⟩:=List.getElem?_of_mem he;obtain⟨q1,q2⟩:=zQ h5;obtain⟨q3,q4,q5⟩:=zI (q2 i e hi);refine zBM (n:=st.mv) (k:=st.m) 8 (zBD q5 λx hx=>hc x ?_) (QD.1 hpp e he)
        rw[q4]at hx;exact QW (QM (QW (QM hx)))
       .cases h
      .cases h
     .cases h
    .cases h
   .split at h
    .cases h
    .rename_i hh;cases h;exact zHn d hcp hh
theorem zOp(al:TbW P G (tbS tb))(X:GPP G){o:XO}{ks:List K}(d:zn o=true)(s:CPS st)(h:fop wk G tb st o ks k=some r):∃v u E,Stp G tb st wk k r (wop G (tbS tb) st o ks) v u E:=by
 have F:∀{o':XO},zJd o'=true->zn o'=true->FXd st (xoS G zd st.fr st.H st.m o') k=some r->∃v u E,Stp G tb st wk k r (λC=>WXd st (xoS G zd st.fr st.H st.m o') C) v u E:=λ{o'} hd d h=>by
  unfold FXd at h;split at h
  .rename_i v H m e;obtain⟨h1,B⟩:=zKV hd d X s.fr s.H e;obtain⟨R,h4⟩:=zND hd s.lt e;exact⟨v,v,_,h,.refl _,λ_=>rfl,h1,⟨s.fr.mono (QA _) h4,B,s.V,R⟩,λC hc=>by unfold WXd;simp only[e];exact hc,(by first|exact QA _|exact QT _)⟩
  .cases h
 have val:∀{v u:AV}{W:(AV->Sta->Prop)->Prop},WK v u->(wk=false->u=v)->CP st.mv st.m u->k u st=some r->(∀C:AV->Sta->Prop,C v st->W C)->∃v u E,Stp G tb st wk k r W v u E:=λhw M hc hk hC=>⟨_,_,st,hk,hw,M,hc,s,hC,(by first|exact QA _|exact QT _)⟩
 have D:∀{v:AV}{W:(AV->Sta->Prop)->Prop},CP st.mv st.m v->k v st=some r->(∀C:AV->Sta->Prop,C v st->W C)->∃v u E,Stp G tb st wk k r W v u E:=λhc hk hC=>val (.refl _) (λ_=>rfl) hc hk hC
 have J:CP (st.mv+1) st.m (.sym st.mv):=.sym _ (QR _);have nil:CP st.mv st.m (.qg []):=.qg _ λe M=>by cases M
 cases o<;>try (cases h;done)
 all_goals try (exact F rfl d h)
 case build z ps=>
  simp only[fop]at h
  delta wop;dsimp only
  cases ks with
  |nil=>exact F rfl d h
  |cons k0 ks=>
   dsimp only at h;unfold FXd at h;split at h
   .rename_i v H m e;obtain⟨h1,B⟩:=zKV (o:=.build z ps) rfl d X s.fr s.H e;obtain⟨R,h4⟩:=zND (o:=.build z ps) rfl s.lt e;obtain⟨v',u,e1,e2,e3,e4⟩:=zJh h;cases e1;exact⟨v,u,_,e4,e2,e3,e2.cp h1,⟨s.fr.mono (QA _) h4,B,s.V,R⟩,λC hc=>by unfold WXd;simp only[e];exact hc,(by first|exact QA _|exact QT _)⟩
   .cases h
 case wc x i l O ag=>
  simp only[fop]at h
  delta wop;dsimp only
  cases ks with
  |nil=>exact F rfl d h
  |cons k0 ks=>
   dsimp only at h⊢;split at h
   .rename_i kd n hi;rw[hi];obtain⟨m,h1,B,R⟩:=zEY h;have A:zn (.wc x (.c (.int kd (.ofNat m))) l O ag)=true:=by
     simp only[zn,XO.qb,zM,List.all_append,QU,List.all_nil,QO,qr]at d⊢;exact⟨d.1,rfl⟩
    obtain⟨v,u,E,q⟩:=F (o':=.wc x (.c (.int kd (.ofNat m))) l O ag) rfl A R;refine⟨v,u,E,q.k,q.vS,q.eq,q.cp,q.vj,λC hc=>⟨⟨by rw[B];exact Qf _,by rw[B];exact Int.ofNat_lt.2 h1⟩,zIA B (q.w C hc)⟩,q.le⟩
   .cases h
 case qz x i l O=>
  simp only[fop]at h
  delta wop;dsimp only
  cases ks with
  |nil=>exact F rfl d h
  |cons k0 ks=>
   dsimp only at h⊢;split at h
   .rename_i kd n hi;rw[hi];obtain⟨m,h1,B,R⟩:=zEY h;have A:zn (.qz x (.c (.int kd (.ofNat m))) l O)=true:=by
     simp only[zn,XO.qb,zM,List.all_append,QU,List.all_nil,QO,qr]at d⊢;exact⟨d.1,rfl⟩
    obtain⟨v,u,E,q⟩:=F (o':=.qz x (.c (.int kd (.ofNat m))) l O) rfl A R;refine⟨v,u,E,q.k,q.vS,q.eq,q.cp,q.vj,λC hc=>⟨⟨by rw[B];exact Qf _,by rw[B];exact Int.ofNat_lt.2 h1⟩,zIA B (q.w C hc)⟩,q.le⟩
   .cases h
 case vO neg lit kt x y=>
  simp only[fop]at h
  delta wop;dsimp only
  cases ks with
  |nil=>exact F rfl d h
  |cons k0 ks=>
   dsimp only at h;split at h
   .split at h
    .rename_i L;split at h
     .rename_i a ha;obtain⟨q,h1,B⟩:=zHp h;refine D (.bool _) B λC hc=>?_
      have e:zH2 true kt a .qe=some q:=by
       cases a<;>simp only[zZw]at h1<;>first|(cases h1;done)|(cases h1;rfl)
      simp only[WXd,xoS,ha,L,e];exact hc
     .cases h
    .cases h
   .cases h
 case seq neg x y=>
  simp only[fop]at h
  delta wop;dsimp only
  cases ks with
  |nil=>exact F rfl d h
  |cons k0 ks=>
   dsimp only at h;split at h
   .rename_i L;split at h
    .rename_i O T g;obtain⟨h1,B⟩:=zSL h;refine D (.bool _) B λC hc=>?_
     cases T with
     |nil=>cases h1
     |cons e T=>
      simp only[WXd,xoS,g,L,zH3];exact hc
    .rename_i g;refine D (.bool _) h λC hc=>?_
     simp only[WXd,xoS,g,L,zH3];exact hc
    .cases h
   .cases h
 case pick cc x y=>
  simp only[fop]at h
  delta wop;dsimp only
  have A:(zo cc=true/\zo x=true)/\zo y=true:=by simp only[zn,XO.qb,zM,List.all_append,QU,List.all_nil,QO,qr]at d;exact d
  split at h
  .rename_i cb a7;rw[a7];split at h
   .rename_i n;rcases zJg h with⟨rfl,B⟩|⟨rfl,B⟩
    .split at B
     .rename_i v Y;exact⟨v,v,_,B,.refl _,λ_=>rfl,zJ X s.fr A.1.2 Y,s.put (.bool _),λC hc=>by simp only[Br,Y];exact hc,(by first|exact QA _|exact QT _)⟩
     .cases B
    .split at B
     .rename_i v Y;exact⟨v,v,_,B,.refl _,λ_=>rfl,zJ X s.fr A.2 Y,s.put (.bool _),λC hc=>by simp only[Br,Y];exact hc,(by first|exact QA _|exact QT _)⟩
     .cases B
   .rename_i S;cases cc with
    |t n=>exact absurd rfl (S n)
    |_=>exact F rfl d h
  .cases h
 case bin op x y=>
  simp only[fop]at h
  delta wop;dsimp only
  split at h
  .rename_i s1 g;rw[g];split at h
   .split at h
    .rename_i s2 L;rw[L];obtain⟨h1,B⟩:=zBt h;exact D (.str _) B λC hc=>⟨h1,hc⟩
    .cases h
   .obtain⟨v,u,E,q⟩:=F rfl d h;refine⟨v,u,E,q.k,q.vS,q.eq,q.cp,q.vj,λC hc=>?_,q.le⟩
    have:=q.w C hc;cases op<;>first|exact this|(rename_i S;exact absurd rfl S)
  .rename_i k1 n1 g;rw[g];split at h
   .split at h
    .rename_i k2 n2 L;rw[L];split at h
     .rename_i hk;obtain⟨h1,B⟩:=zBt h;exact D (.int _ _) B λC hc=>by simp only[hk];exact⟨h1,hc⟩
     .cases h
    .cases h
   .split at h
    .rename_i k2 n2 L;rw[L];split at h
     .rename_i hk;obtain⟨h1,B⟩:=zBt h;exact D (.int _ _) B λC hc=>by simp only[hk];exact⟨h1,hc⟩
     .cases h
    .cases h
   .split at h
    .rename_i k2 n2 L;rw[L];obtain⟨h1,B⟩:=zBt h;exact D (.int _ _) B λC hc=>⟨h1,hc⟩
    .cases h
   .split at h
    .rename_i k2 n2 L;rw[L];obtain⟨h1,B⟩:=zBt h;exact D (.int _ _) B λC hc=>⟨h1,hc⟩
    .cases h
   .obtain⟨v,u,E,q⟩:=F rfl d h;refine⟨v,u,E,q.k,q.vS,q.eq,q.cp,q.vj,λC hc=>?_,q.le⟩
    have:=q.w C hc;rename_i g1 g2 g3 g4;cases op<;>first|exact this|exact absurd rfl g1|exact absurd rfl g2|exact absurd rfl g3|exact absurd rfl g4
  .cases h
 case qW neg kd x y=>
  simp only[fop]at h
  delta wop;dsimp only
  split at h
  .rename_i a g;split at h
   .rename_i b L;split at h
    .rename_i q hq;rw[g,L];exact D (by unfold zBu;exact .bool _) h λC hc=>by simp only[hq];exact hc
    .cases h
   .cases h
  .cases h
 case wP x i=>
  simp only[fop]at h
  delta wop;dsimp only
  split at h
  .rename_i s1 g;split at h
   .rename_i kd n hi;rw[g,hi];obtain⟨c,h1,B⟩:=zHp h;exact D (.int _ _) B λC hc=>⟨c,h1,hc⟩
   .cases h
  .cases h
 case wJ x lo hi=>
  simp only[fop]at h
  delta wop;dsimp only
  split at h
  .rename_i s1 g;split at h
   .rename_i az ai;split at h
    .rename_i ar aj;rw[g];simp only[ai,aj];obtain⟨l,u,h1,B⟩:=zMc h;exact D (.str _) h1 λC hc=>B _ hc
    .cases h
   .cases h
  .cases h
 case wy x lo hi mx O=>
  simp only[fop]at h
  delta wop;dsimp only
  split at h
  .rename_i ac T g;split at h
   .rename_i N;split at h
    .split at h
     .rename_i az ai;split at h
      .rename_i ar aj;rw[g];simp only[N,ai,aj];obtain⟨l,u,h1,B⟩:=zMc h;have A:zo x=true:=by
        simp only[zn,XO.qb,zM,List.all_append,QU,List.all_nil,QO,qr]at d;exact d.1.1.1
       have aa:=zJ X s.fr A g;cases aa with
       |qo _ _ ad=>exact D (.qo _ _ λe M=>ad e (QM (QW M))) h1 λC hc=>B _ hc
      .cases h
     .cases h
    .cases h
   .cases h
  .rename_i g;have bf:=g;have hh:=h;unfold FXd at hh;split at hh
   .rename_i v H m e;rw[g];have:v=.qa/\H=st.H/\m=st.m:=by
     simp only[xoS,g]at e;split at e
     .split at e
      .rename_i hq;cases e;refine⟨?_,rfl,rfl⟩
       have Y:∀{v0:AV},some AV.qa=some v0->v0=.qa:=λh=>by cases h;rfl
       rename_i v0 _ _ _ q1 _ _ _ _;have:=Y q1;subst this;simp only[zFU]at hq
       repeat' split at hq
       all_goals first|(cases hq;done)|(cases hq;rfl)
      .cases e
     .cases e
    obtain⟨rfl,rfl,rfl⟩:=this;exact D .qa hh λC hc=>by unfold WXd;simp only[e];exact hc
   .cases hh
  .cases h
 case qB x i O=>
  simp only[fop]at h
  delta wop;dsimp only
  have A:zo x=true/\zo i=true:=by simp only[zn,XO.qb,zM,List.all_append,QU,List.all_nil,QO,qr]at d;exact d
  split at h
  .rename_i ac T g;split at h
   .rename_i N;split at h
    .rename_i kd n hi;rw[g];simp only[N,hi];split at h
     .obtain⟨m,h1,B,R⟩:=zEY h;unfold bd at R;split at R
      rotate_left
      .cases R
      rename_i v Y;have aa:=zJ X s.fr A.1 g;cases aa with
      |qo _ _ ad=>exact val (.refl _) (λ_=>rfl) (.qc _ _ (ad v (QF Y))) R λC hc=>⟨v,by rw[B];exact Y,hc⟩
     obtain⟨v,u,h1,B,R,h4⟩:=zJh h;have aa:=zJ X s.fr A.1 g;cases aa with
     |qo _ _ ad=>
      have ab:PP v:=by
       unfold ixN at h1;split at h1
       .exact ad v (QF h1)
       .cases h1
      exact val (.qc 0 B) (λe=>by rw[R e]) (.qc _ _ (B.pp ab)) h4 λC hc=>⟨v,h1,hc⟩
    .cases h
   .cases h
  .rename_i j g;split at h
   .rename_i ac T I;split at h
    .rename_i N;split at h
     .rename_i kd n hi;rw[g];simp only[I,N,hi];obtain⟨h1,B⟩:=zBt h;exact⟨_,_,_,B,.refl _,λ_=>rfl,J,s.w9 trivial,λC hc=>⟨h1,hc⟩,(by first|exact QA _|exact QT _)⟩
     .cases h
    .cases h
   .cases h
  .rename_i g;split at h
   .rename_i kd n hi;rw[g];simp only[hi];obtain⟨m,h1,B,R⟩:=zEY h;have ao:zn (.qB x (.c (.int kd (.ofNat m))) O)=true:=by
     simp only[zn,XO.qb,zM,List.all_append,QU,List.all_nil,QO,qr];exact⟨A.1,rfl⟩
    obtain⟨v,u,E,q⟩:=F (o':=.qB x (.c (.int kd (.ofNat m))) O) rfl ao R;refine⟨v,u,E,q.k,q.vS,q.eq,q.cp,q.vj,λC hc=>⟨⟨by rw[B];exact Qf _,by rw[B];exact Int.ofNat_lt.2 h1⟩,zIA B (q.w C hc)⟩,q.le⟩
   .cases h
  .cases h
 case wb x=>
  simp only[fop]at h
  delta wop;dsimp only
  split at h
  .rename_i j g;split at h
   .rename_i O T I;rw[g];simp only[I];exact D (.int _ _) h λC hc=>hc
   .rename_i n I;rw[g];simp only[I];exact D (.int _ _) h λC hc=>hc
   .cases h
  .rename_i S;obtain⟨v,u,E,q⟩:=F rfl d h;refine⟨v,u,E,q.k,q.vS,q.eq,q.cp,q.vj,λC hc=>?_,q.le⟩
   split
   .rename_i j g;exact absurd g (S j)
   .exact q.w C hc
 case load x O ag=>
  have hd:=λh=>F (o':=.load x O ag) rfl d h
  simp only[fop]at h
  delta wop;dsimp only
  cases hc:isC ks with
  |true=>
   cases g:x.ev G st.fr with
   |none=>rw[hc,g]at h;cases h
   |some a=>rw[hc,g]at h;cases a<;>first|(cases h;done)|exact hd h
  |false=>
   cases g:x.ev G st.fr with
   |none=>rw[hc,g]at h;exact hd h
   |some a=>
    rw[hc,g]at h;cases a with
    |sym p=>
     simp only at h⊢;split at h
     .rename_i j i off hp;split at h
      .rename_i ac T I;obtain⟨v,u,h1,B,R,h4⟩:=zJh h;have ab:PP v:=by
        unfold ldE at h1;split at h1
        .rename_i e M;exact zOk ((s.V _ _ I).2 e (QF M)).cells h1
        .cases h1
       exact val B R (B.pp ab).cp h4 λC hc=>by simp only[hp,I];exact⟨v,h1,hc⟩
      .cases h
     .cases h
    |_=>exact hd h
 case qC x f=>
  simp only[fop]at h
  delta wop;dsimp only
  split at h
  .rename_i p g;split at h
   .rename_i j i off hp;split at h
    .rename_i ac T I;rw[g];simp only[hp,I];exact⟨_,_,_,h,.refl _,λ_=>rfl,J,s.w9 trivial,λC hc=>hc,(by first|exact QA _|exact QT _)⟩
    .cases h
   .cases h
  .rename_i S;obtain⟨v,u,E,q⟩:=F rfl d h;refine⟨v,u,E,q.k,q.vS,q.eq,q.cp,q.vj,λC hc=>?_,q.le⟩
   split
   .rename_i j g;exact absurd g (S j)
   .exact q.w C hc
 case store x y O=>
  simp only[fop]at h
  delta wop;dsimp only
  have A:zo x=true/\zo y=true:=by simp only[zn,XO.qb,zM,List.all_append,QU,List.all_nil,QO,qr]at d;exact d
  split at h
  .rename_i p g;split at h
   .rename_i j i off hp;split at h
    .rename_i ac T I;split at h
     .rename_i v L;split at h
      .rename_i N;split at h
       .rename_i new ax;rw[g];simp only[hp,I,L,N,ax];simp only[qr]at N;have ab:PP v:=zBM 12 (zJ X s.fr A.2 L) N.2;refine⟨_,_,_,h,.refl _,λ_=>rfl,nil,s.uJ (s.V _ _ I).1 (λe M=>?_),λC hc=>hc,(by first|exact QA _|exact QT _)⟩
        rcases List.mem_or_eq_of_mem_set M with M|rfl
        .exact(s.V _ _ I).2 e M
        .exact ab
       .cases h
      .cases h
     .cases h
    .cases h
   .cases h
  .rename_i S;obtain⟨v,u,E,q⟩:=F rfl d h;refine⟨v,u,E,q.k,q.vS,q.eq,q.cp,q.vj,λC hc=>?_,q.le⟩
   split
   .rename_i j g;exact absurd g (S j)
   .exact q.w C hc
 case vJ x=>
  simp only[fop]at h
  delta wop;dsimp only
  split at h
  .rename_i s1 g;rw[g];refine⟨_,_,_,h,.refl _,λ_=>rfl,J,s.w9 (λe M=>?_),λC hc=>hc,(by first|exact QA _|exact QT _)⟩
   obtain⟨b,_,rfl⟩:=QL.1 M;exact .int _ _
  .cases h
 case vB x=>
  simp only[fop]at h
  delta wop;dsimp only
  split at h
  .rename_i j g;split at h
   .rename_i O T I;split at h
    .rename_i N;rw[g];simp only[I,N];obtain⟨q,h1,B⟩:=zHp h;exact D (.str _) B λC hc=>⟨q,h1,hc⟩
    .cases h
   .cases h
  .rename_i O T g;split at h
   .rename_i N;rw[g];simp only[N];obtain⟨q,h1,B⟩:=zHp h;exact D (.str _) B λC hc=>⟨q,h1,hc⟩
   .cases h
  .rename_i g;rw[g];exact D (.str _) h λC hc=>hc
  .cases h
 case qy len O z ps=>
  simp only[fop]at h
  delta wop;dsimp only
  cases ks with
  |cons k0 ks=>
   cases k0 with
   |c u=>
    dsimp only at h⊢;split at h
    .rename_i T M;rw[M];obtain⟨cs,hf,hl,hr,hp⟩:=zQ9 M;simp only[zn,XO.qb,qr]at d;have hz:z.all (z9 12)=true:=d.2;have af:∀c'∈cs,CP st.mv st.m c':=zGc X s.fr (by simpa[List.all_map]using d.1) (λc' hc=>(zAy 12 (QD.1 hz c' hc)).cp) hf
     exact D (.qo _ _ (zO6 hr af hp)) h λC hc=>hc
    .cases h
   |_=>exact F rfl d h
  |nil=>
   dsimp only at h⊢;split at h
   .rename_i cs hf;split at h
    .rename_i hl;split at h
     .rename_i T hr;split at h
      .rename_i hp;simp only[hf,hl,hr,hp];simp only[zn,XO.qb,qr]at d;have hz:z.all (z9 12)=true:=d.2;have af:∀c'∈cs,CP st.mv st.m c':=zGc X s.fr (by simpa[List.all_map]using d.1) (λc' hc=>(zAy 12 (QD.1 hz c' hc)).cp) hf
       exact⟨_,_,_,h,.refl _,λ_=>rfl,J,s.w9 (zO6 hr af hp),λC hc=>hc,(by first|exact QA _|exact QT _)⟩
      .cases h
     .cases h
    .cases h
   .cases h
 case qM l cx O bytes z=>
  simp only[fop]at h
  delta wop;dsimp only
  split at h
  .rename_i k1 n hl;split at h
   .rename_i k2 m aa;split at h
    .rename_i e hr hz;rw[hl];simp only[aa,hr,hz];obtain⟨h1,B⟩:=zBt h;simp only[zn,XO.qb,qr]at d;have bb:z.all (z9 12)=true:=d.2;have a6:∀c'∈z,PP c':=λc' hc=>zAy 12 (QD.1 bb c' hc)
     have a8:PP e:=by
      obtain⟨q1,q2,q3,q4,q5⟩:=z4 hr;have a1:=(zQ q5).2 0 e rfl;obtain⟨_,q7,q8⟩:=zI a1;refine zL7 q8 λx g=>a6 x ?_
      rw[q7]at g;exact QM (QW (QM g))
     exact⟨_,_,_,B,.refl _,λ_=>rfl,J,s.w9 (λx g=>by rw[(List.mem_replicate.1 g).2];exact a8),λC hc=>⟨h1,hc⟩,(by first|exact QA _|exact QT _)⟩
    .cases h
   .cases h
  .cases h
 case append x y O bytes=>
  simp only[fop]at h
  delta wop;dsimp only
  have A:zo x=true/\zo y=true:=by simp only[zn,XO.qb,zM,List.all_append,QU,List.all_nil,QO,qr]at d;exact d
  split at h
  .cases h
  .rename_i ak;split at h
   .rename_i v g;split at h
    .rename_i u L;split at h
     .rename_i ys M;split at h
      .rename_i ae;have aq:=zVU s.H (zJ X s.fr A.2 L) M ae;split at h
       .obtain⟨h1,B⟩:=zBt h;rw[g,L];simp only[ak,M,ae];exact⟨_,_,_,B,.refl _,λ_=>rfl,J,s.w9 aq,λC hc=>⟨h1,hc⟩,(by first|exact QA _|exact QT _)⟩
       .rename_i j;split at h
        .rename_i ac T I;split at h
         .rename_i N;have s1:=s.uT (j:=j) (vi:=.vec O (T++ys)) (λe M=>(QH.1 M).elim ((s.V _ _ I).2 e) (aq e))
          split at h
          .rename_i ah;obtain⟨h1,B⟩:=zBt h;rw[g,L];simp only[ak,M,ae,I,N,ah];exact⟨_,_,_,B,.refl _,λ_=>rfl,J,s1.u6 (Nat.lt_succ_of_lt (s.V _ _ I).1),λC hc=>⟨h1,hc⟩,(by first|exact QA _|exact QT _)⟩
          .rename_i ah;obtain⟨h1,B⟩:=zBt h;rw[g,L];simp only[ak,M,ae,I,N,ah];exact⟨_,_,_,B,.refl _,λ_=>rfl,J,s1,λC hc=>⟨h1,hc⟩,(by first|exact QA _|exact QT _)⟩
         .cases h
        .cases h
       .cases h
      .cases h
     .cases h
    .cases h
   .cases h
 case wu=>
  exact⟨_,_,_,h,.refl _,λ_=>rfl,J,s.w9 (λp hp=>by cases hp),λC hc=>hc,(by first|exact QA _|exact QT _)⟩
 case lookup ag kd m x z ok=>
  simp only[fop]at h
  delta wop;dsimp only
  have hz:z9 12 z=true:=by simp only[zn,XO.qb,zM,qr]at d;exact d.2
  split at h
  .rename_i j hm;split at h
   .rename_i T I;split at h
    .rename_i kv g;split at h
     .rename_i bc;rw[hm];simp only[I,g,bc];have hl:∀{b:Bool}{u:AV},PP u->PP (lkV ok b u):=λ{b u} hu=>by
       cases ok
       .exact hu
       .exact .qg _ λe M=>by
         simp only[QG,List.not_mem_nil,or_false]at M;rcases M with rfl|rfl
         .exact hu
         .exact .bool _
      split at h
      .obtain⟨q,h1,B⟩:=zRh h;cases q with
       |some u=>
        have hp:PP (lkV ok true u):=hl (zRj (s.V _ _ I).2 h1);exact val (.refl _) (λ_=>rfl) hp.cp B λC hc=>⟨_,by rw[h1];rfl,hc⟩
       |none=>
        have hp:PP (lkV ok false z):=hl (zAy 12 hz);exact val (.refl _) (λ_=>rfl) hp.cp B λC hc=>⟨_,by rw[h1];rfl,hc⟩
      obtain⟨v,u,h1,B,R,h4⟩:=zJh h;have ab:PP v:=by
       unfold lkR at h1;split at h1
       .rename_i hf;cases h1;exact hl (zRj (s.V _ _ I).2 hf)
       .cases h1;exact hl (zAy 12 hz)
       .cases h1
      exact val B R (B.pp ab).cp h4 λC hc=>⟨v,h1,hc⟩
     .cases h
    .cases h
   .cases h
  .cases h
 case wM ag kd m x y=>
  simp only[fop]at h
  delta wop;dsimp only
  have A:(zo m=true/\zo x=true)/\zo y=true:=by simp only[zn,XO.qb,zM,List.all_append,QU,List.all_nil,QO,qr]at d;exact d
  split at h
  .rename_i j hm;split at h
   .rename_i T I;split at h
    .rename_i kv g;split at h
     .rename_i u L;split at h
      .rename_i N;rw[hm];simp only[I,g,L,N];simp only[qr]at N;obtain⟨ay,h1,B⟩:=zHp h;have aw:PP kv:=zBM 12 (zJ X s.fr A.1.2 g) N.1.2;have ba:PP u:=zBM 12 (zJ X s.fr A.2 L) N.2;exact⟨_,_,_,B,.refl _,λ_=>rfl,nil,s.uJ (s.V _ _ I).1 (zXT aw ba (s.V _ _ I).2 h1),λC hc=>⟨ay,h1,hc⟩,(by first|exact QA _|exact QT _)⟩
      .cases h
     .cases h
    .cases h
   .cases h
  .cases h
 case call f xs=>
  simp only[fop]at h
  delta wop;dsimp only
  have A:xs.all zo=true:=by simp only[zn,XO.qb,zM,QO]at d;exact d
  split at h
  .rename_i vs Y;rw[Y];exact zO7 al s (zEs X s.fr A Y) h
  .cases h
 case qN fx xs=>
  simp only[fop]at h
  delta wop;dsimp only
  have A:zo fx=true/\xs.all zo=true:=by simp only[zn,XO.qb,zM,List.all_append,QU,List.all_nil,QO,qr]at d;exact d
  split at h
  .rename_i f first be hf;split at h
   .rename_i vs Y;rw[hf];simp only[Y];refine zO7 al s (λx g=>?_) h
    have au:=zJ X s.fr A.1 hf;cases au with
    |func _ _ _ q1 q2=>
     rcases QH.1 g with g|g
     .rcases QH.1 g with g|g
      .exact q1 x g
      .exact zEs X s.fr A.2 Y x g
     .exact q2 x g
   .cases h
  .cases h
end
theorem zLI{h:Nat}{l:JV}{k:Nat}(e:posN h 0 l=some k):k<l.length:=by
 obtain⟨j,h1,a⟩:=zDu e;have:=(QC.1 a).1;omega
theorem zU2{hm sm:JV}{n k:Nat}:∀(d:Nat){v v':AV},CP n k v->rnV hm sm d v=some v'->CP sm.length hm.length v':=by
 intro d
 induction d with
 |zero=>intro v v' _ h;cases h
 |succ d I=>
  intro v v' hc h;have x:∀{F H:JE},(∀e∈F,CP n k e)->zp (rnV hm sm d) F=some H->∀e∈H,CP sm.length hm.length e:=λN z e O=>by
   obtain⟨m1,m2⟩:=zAz z;obtain⟨i,g⟩:=List.getElem?_of_mem O;have y:=(QC.1 g).1;have E:=QE (show i<_ from m1▸y)
   exact I (N _ (QF E)) (m2 i _ e E g)
  unfold rnV at h;cases hc with
  |ptr D o hk=>
   simp only at h;split at h
   .rename_i i g;cases h;exact .ptr _ _ (zLI g)
   .cases h
  |row D o l s c e hk=>
   simp only at h;split at h
   .rename_i i g;cases h;exact .row _ _ _ _ _ _ (zLI g)
   .cases h
  |map D hk=>
   simp only at h;split at h
   .rename_i i g;cases h;exact .map _ (zLI g)
   .cases h
  |sym j hj=>
   simp only at h;split at h
   .rename_i i g;cases h;exact .sym _ (zLI g)
   .cases h
  |func f a b R J=>
   simp only at h;split at h
   .rename_i V L;split at h
    .rename_i T S;cases h;exact .func _ _ _ (x R L) (x J S)
    .cases h
   .cases h
  |iface t u M=>
   simp only at h;split at h
   .rename_i W A;cases h;exact .iface _ _ (I M A)
   .cases h
  |agg K w=>
   simp only at h;split at h
   .rename_i C p;cases h;exact .agg _ (x w p)
   .cases h
  |qg K w=>
   simp only at h;split at h
   .rename_i C p;cases h;exact .qg _ (x w p)
   .cases h
  |bool b=>cases h;exact .bool _
  |int q m=>cases h;exact .int _ _
  |str s=>cases h;exact .str _
  |qj=>cases h;exact .qj
  |qa=>cases h;exact .qa
  |qm=>cases h;exact .qm
  |ql=>cases h;exact .ql
  |qe=>cases h;exact .qe
  |qc e off B=>cases h;exact .qc _ _ B
  |qo X Y B=>cases h;exact .qo _ _ B
def CPW(H:Heap)(V:Vecs):Prop:=CPS ⟨[],H,V,H.length,V.length⟩
theorem CPW.mk'{H:Heap}{V:Vecs}(h:CPW H V){fr:Fr}(a:zCx V.length H.length fr):CPS ⟨fr,H,V,H.length,V.length⟩:=⟨a,h.H,h.V,h.lt⟩
theorem zFR{β:Type}{r:β}{hm sm:JV}{vs:JE}{st:Sta}{k:JE->Heap->Vecs->Option β}(s:CPS st)(hc:∀v∈vs,CP st.mv st.m v)(h:zFr hm sm vs st k=some r):
  ∃d H V,k d H V=some r/\(∀v∈d,CP V.length H.length v)/\d.length=vs.length/\CPW H V/\H.length=hm.length/\V.length=sm.length/\H.keys=List.range' 0 hm.length/\∀C:JE->Heap->Vecs->Prop,C d H V->zCu hm sm vs st C:=by
 unfold zFr at h;split at h
 .rename_i x;split at h
  .rename_i d g;split at h
   .rename_i H hH;split at h
    .rename_i V A;obtain⟨h1,z,F⟩:=zHV hH;obtain⟨v1,v2⟩:=zGK A;obtain⟨m1,m2⟩:=zAz g;have l:∀v∈d,CP V.length H.length v:=λv J=>by
      obtain⟨i,f⟩:=List.getElem?_of_mem J;have b:=(QC.1 f).1;have a:=QE (show i<_ from m1▸b)
      rw[v1,h1];exact zU2 8 (hc _ (QF a)) (m2 i _ v a f)
     refine⟨d,H,V,h,l,m1,⟨λt v e=>(by cases e),λp u=>?_,λj L K=>?_,λp u=>?_⟩,h1,v1,z,λC B=>?_⟩
     .obtain⟨j,N,str,O,w,_,rfl,D,y⟩:=F p u;refine⟨str,w,rfl,λc n=>?_⟩
      obtain⟨_,_,e,o⟩:=s.H.get D;cases e;obtain⟨m1,m2⟩:=zAz y;obtain⟨i,f⟩:=List.getElem?_of_mem n;have b:=(QC.1 f).1;have a:=QE (show i<_ from m1▸b)
      show CP V.length H.length c
      rw[v1,h1];exact zU2 8 (o _ (QF a)) (m2 i _ c a f)
     .obtain⟨q,M,rfl,E,I,_⟩:=v2 j L K;have:=(QC.1 E).1;exact⟨by show 0+q<V.length;omega,(s.V _ _ I).2⟩
     .have:p.1∈H.keys:=List.mem_map_of_mem u;rw[z,List.mem_range']at this;obtain⟨i,f,e⟩:=this;show p.1<H.length
      omega
     .unfold zCu;simp only[x,g,hH,A];exact B
    .cases h
   .cases h
  .cases h
 .cases h
theorem CPS.ub{st:Sta}(s:CPS st){h sz f:Nat}{v:AV}{es:JE}(w:zIq st.H h sz v=some (f,es)):CPS ⟨st.fr,st.H.del f,(st.mv,.vec sz es)::st.V,st.m,st.mv+1⟩:=by
 obtain⟨l,J,C,str,D,rfl,_,y,I,A,a⟩:=zHa w;obtain⟨q1,K,E,F,z⟩:=z4 A;obtain⟨_,_,u,c⟩:=s.H.get y;cases u;have d:∀e∈es,PP e:=by
  intro e j;obtain⟨i,B⟩:=List.getElem?_of_mem j;obtain⟨_,t⟩:=zQ z;obtain⟨_,q,o⟩:=zI (t i e B);refine zBM (n:=st.mv) (k:=st.m) 12 (zBD o λx g=>c x ?_) (QD.1 a e j)
  rw[q]at g;exact QM (QW (QM g))
 have b:=s.w9 (vi:=.vec sz es) d;exact⟨b.fr,λp a=>b.H p ((Heap.wx _ _).subset a),b.V,λp a=>b.lt p ((Heap.wx _ _).subset a)⟩
theorem zFt{h:Nat}:∀{g:JN}{st:Sta},CPS st->CPS (qD h g st)/\(qD h g st).fr=st.fr/\(qD h g st).m=st.m/\st.mv<=(qD h g st).mv
 |[],st,s=>⟨s,rfl,rfl,QA _⟩
 |(i,w)::g,st,s=>by
  simp only[qD];split
  .rename_i str f v;split
   .have t:=s.w9 (vi:=.vec w []) λe A=>by cases A
    have n:∀c∈f.set i (.sym st.mv),CP (st.mv+1) st.m c:=λc hc=>by
     rcases List.mem_or_eq_of_mem_set hc with hc|rfl
     .obtain⟨_,_,e,l⟩:=t.H.get v;cases e;exact l c hc
     .exact .sym _ (QR _)
    obtain⟨a,b,c,d⟩:=zFt (h:=h) (g:=g) (st:=⟨st.fr,st.H.put h (.cells str (f.set i (.sym st.mv))),(st.mv,.vec w [])::st.V,st.m,st.mv+1⟩) ⟨t.fr,t.H.put n,t.V,λp j=>by
     have:p.1∈(st.H.put h (.cells str (f.set i (.sym st.mv)))).keys:=List.mem_map_of_mem j;rcases zCv j with rfl|j
     .exact s.lt (h,.cells str f) (Heap.qi v)
     .exact s.lt p j⟩
    exact⟨a,b,c,QI (QT _) d⟩
   .split
    .rename_i x z y;have o:=s.ub y;have q:(st.H.del x).get h=some (.cells str f):=by
      obtain⟨_,_,_,_,_,_,u,_⟩:=zHa y;exact(Heap.qL u).trans v
     have n:∀c∈f.set i (.sym st.mv),CP (st.mv+1) st.m c:=λc hc=>by
      rcases List.mem_or_eq_of_mem_set hc with hc|rfl
      .obtain⟨_,_,e,l⟩:=o.H.get q;cases e;exact l c hc
      .exact .sym _ (QR _)
     obtain⟨a,b,c,d⟩:=zFt (h:=h) (g:=g) (st:=⟨st.fr,(st.H.del x).put h (.cells str (f.set i (.sym st.mv))),(st.mv,.vec w z)::st.V,st.m,st.mv+1⟩) ⟨o.fr,o.H.put n,o.V,λp j=>by
      rcases zCv j with rfl|j
      .exact o.lt (h,.cells str f) (Heap.qi q)
      .exact o.lt p j⟩
     exact⟨a,b,c,QI (QT _) d⟩
    .exact zFt s
   .exact zFt s
  .exact⟨s,rfl,rfl,QA _⟩
theorem CPS.wE{st:Sta}(s:CPS st):∀(k:Nat){v:AV},CP st.mv st.m v->CP st.mv st.m (Sy.wE st.V k v):=by
 intro k
 induction k with
 |zero=>intro v hc;exact hc
 |succ k c=>
  intro v hc;unfold Sy.wE;split
  .split
   .rename_i d;exact .qo _ _ (s.V _ _ d).2
   .exact hc
  .cases hc with
   |agg _ h=>
    refine .agg _ λe a=>?_
    obtain⟨x,b,rfl⟩:=QL.1 a;exact c (h x b)
  .cases hc with
   |qg _ h=>
    refine .qg _ λe a=>?_
    obtain⟨x,b,rfl⟩:=QL.1 a;exact c (h x b)
  .exact hc
theorem CPS.wB{st:Sta}(s:CPS st){v:AV}(hc:CP st.mv st.m v):CP st.mv st.m (Sy.wB st.V v):=s.wE 4 hc
theorem CPS.wv{st:Sta}(s:CPS st):CPS (wv st):=by
 refine⟨λt u a=>?_,λp d=>?_,λj m h=>(by cases h),λp d=>?_⟩
 rotate_left
 .obtain⟨q,b,rfl⟩:=QL.1 d;obtain⟨str,l,e,f⟩:=s.H q b;simp only[e];exact⟨str,_,rfl,λc hc=>by
   obtain⟨y,i,rfl⟩:=QL.1 hc;exact s.wE 4 (f y i)⟩
 .obtain⟨q,b,rfl⟩:=QL.1 d;exact s.lt q b
 have a:Fr.get (st.fr.map λp=>(p.1,Sy.wB st.V p.2)) t=some u:=a
 rw[Fr.get_map]at a;cases hg:Fr.get st.fr t with
 |none=>rw[hg]at a;cases a
 |some g=>
  rw[hg]at a;cases a;exact s.wB (s.fr t g hg)
theorem CPS.wD{st:Sta}(s:CPS st){n:Nat}:CPS (wD n st):=by
 unfold Sy.wD;split
 .split
  .rename_i m;split
   .split
    .rename_i fl l;have j:∀c∈fl,PP c:=zCc l (s.V _ _ m).2;refine⟨λu x b=>?_,λp a=>?_,λi f h=>?_,λp a=>?_⟩
     .rw[Fr.qu]at b;split at b
      .cases b;exact .row _ _ _ _ _ _ (QR _)
      .exact(s.fr u x b).mono (QA _) (QT _)
     .rcases QG.1 a with rfl|a
      .exact⟨true,fl,rfl,λc hc=>(j c hc).cp⟩
      .obtain⟨str,g,e,d⟩:=s.H p a;exact⟨str,g,e,λc hc=>(d c hc).mono (QA _) (QT _)⟩
     .have h:((st.V.del _).get i)=some f:=h;rw[Vecs.qL]at h;split at h
      .cases h
      .exact s.V i f h
     .rcases QG.1 a with rfl|a
      .exact QR _
      .exact Nat.lt_succ_of_lt (s.lt p a)
    .exact s
   .exact s
  .exact s
 .exact s
theorem zBh:∀{g:JN}{st:Sta},CPS st->CPS (zCy g st)
 |[],st,s=>s
 |(t,a)::g,st,s=>by
  simp only[zCy];split
  .split
   .exact zBh s.wv
   .exact zBh s.wD
  .split
   .exact zBh ((s.w9 (vi:=.vec a []) λe b=>by cases b).put (.sym _ (QR _)))
   .split
    .rename_i c;exact zBh ((s.ub c).put (.sym _ (QR _)))
    .exact zBh s
   .exact zBh s
  .split
   .exact zBh (zFt s).1
   .exact zBh s
theorem zFu{β:Type}{r:β}{c:Cut}{F:JE->Heap->Vecs->Option β}{st:Sta}(s:CPS st)(h:zLj c F st=some r):∃vs H V,F vs H V=some r/\CPS (mkW c vs H V)/\∀C:Inv,C vs H V->zOx c C st:=by
 have s:=zBh (g:=c.grow) s;unfold zLj zUZ at h;split at h
 .cases h
 .rename_i vs a;unfold zLH at h;have d:∀v∈vs,CP (zCy c.grow st).mv (zCy c.grow st).m v:=λv u=>by
   obtain⟨h1,j⟩:=zK1 a;obtain⟨i,b⟩:=List.getElem?_of_mem u;have f:=(QC.1 b).1;have n:=QE (show i<_ from h1▸f)
   exact s.fr _ _ (j i _ v n b)
  obtain⟨q,H,V,h1,j,w,o,_,_,_,p⟩:=zFR s d h;refine⟨q,H,V,h1,o.mk' λt v e=>?_,λC l=>?_⟩
  .obtain⟨i,_,b⟩:=zJI e;exact j v (QF b)
  .unfold zOx canon;rw[a];exact p C l
def zJY(e:FEnt):HEnt:=⟨e.f,e.grow,λargs H V=>(∀x∈args,CP V.length H.length x)/\CPW H V/\H.keys=List.range' 0 H.length,e.val⟩
structure FOK(P:Program)(G:Cx)(e:FEnt):Prop where
 h:HOK P G (zJY e)
 v:∀args H V v H2 V2,(∀x∈args,CP V.length H.length x)->CPW H V->H.keys=List.range' 0 H.length->e.val args H V=some (v,H2,V2)->∀j vi,V2.get j=some vi->j<V2.length/\VIP vi
def toT(th:TbH)(o:FOp):TOp:=⟨o.o,o.ks,o.h.map λ_=>th.map zJY⟩
theorem zJM{f:Nat}:∀{th:TbH},zG6 (th.map zJY) f=(zJL th f).map zJY
 |[]=>rfl
 |s::r=>by
  simp only[Qa,zG6,zJL];have e:Nat.beq f (zJY s).f=Nat.beq f s.f:=rfl;rw[e];cases Nat.beq f s.f with
  |true=>rfl
  |false=>exact zJM
section
variable{β:Type}{P:Program}{G:Cx}{tb:TbF}{th:TbH}{st:Sta}{r:β}
theorem zU3{g:JN}{args:JE}(s:CPS st):CPS (qJ g args st)/\(qJ g args st).fr=st.fr/\(qJ g args st).m=st.m/\st.mv<=(qJ g args st).mv:=by
 unfold qJ;split
 .exact zFt s
 .exact⟨s,rfl,rfl,QA _⟩
theorem WK.wF{v u:AV}{hm:JV}{m mv:Nat}(h:WK v u):WK (Sy.wF hm m mv v) (Sy.wF hm m mv u):=by
 cases h with
 |refl=>exact .refl _
 |nil b=>exact .nil b
 |qc off h=>exact .qc off h
 |iface t h=>exact .iface t h
 |agg a h=>exact .agg a h
 |qg a h=>exact .qg a h
theorem WK.vR{v u:AV}{hm:JV}{m mv:Nat}(h:WK v u):WK (Sy.vR hm m mv v) (Sy.vR hm m mv u):=by
 cases h with
 |refl=>exact .refl _
 |nil j=>exact .nil j
 |qc off h=>exact .qc off h
 |iface t h=>exact .iface t h
 |agg e h=>exact .agg e h
 |@qg g f e h=>
  refine .qg (by simp[e]) λi c l hc d=>?_
  rw[Qb]at hc d;cases h1:g[i]? with
  |none=>rw[h1]at hc;cases hc
  |some a=>
   cases h2:f[i]? with
   |none=>rw[h2]at d;cases d
   |some b=>
    rw[h1]at hc;rw[h2]at d;cases hc;cases d;exact(h i a b h1 h2).wF
theorem zSM{H:Heap}{hm sm:JV}:∀{l:JV}{i:Nat}{H':Heap},rnH H hm sm i l=some H'->∀h∈l,∃o,H.get h=some o
 |[],i,H',e,h,a=>by cases a
 |f::r,i,H',e,h,a=>by
  simp only[rnH]at e;split at e
  .rename_i str d c;rcases QG.1 a with rfl|a
   .exact⟨_,c⟩
   .split at e
    .split at e
     .rename_i b;exact zSM b h a
     .cases e
    .cases e
  .cases e
theorem zTr{β:Type}{r:β}{hm sm:JV}{vs:JE}{st:Sta}{k:JE->Heap->Vecs->Option β}(s:CPS st)(h:zFr hm sm vs st k=some r):∀x∈hm,x<st.m:=by
 unfold zFr at h;split at h
 .split at h
  .split at h
   .rename_i H hH;intro x b;obtain⟨o,a⟩:=zSM hH x b;exact s.lt _ (Heap.qi a)
   .cases h
  .cases h
 .cases h
theorem zNJ{e:FEnt}(he:FOK P G e){ds:List D}{args:JE}{k:AV->Sta->Option β}(s:CPS st)(ae:∀x∈args,CP st.mv st.m x)(h:zNH e ds args st k=some r):∃v u af,Stp G tb st true k r (zDU (zJY e) args st) v u af:=by
 obtain⟨w,e1,e2,e3⟩:=zU3 (g:=e.grow) (args:=args) s;unfold zNH zLH at h;have ac:∀x∈args,CP (qJ e.grow args st).mv (qJ e.grow args st).m x:=λx hx=>(ae x hx).mono e3 (by rw[e2];exact QA _)
 have K:=zTr w h;obtain⟨us,H,V,h1,M,h3,h4,h5,h6,h7,h8⟩:=zFR w ac h;obtain⟨v,u,f,n,g1,g2,_,g3⟩:=zXS h1;have hk:H.keys=List.range' 0 H.length:=by rw[h7,h5]
 obtain⟨o,_⟩:=he.h.2 us H V v f n ⟨M,h4,hk⟩ g1;have N:=he.v us H V v f n M h4 hk g1;generalize aa:qJ e.grow args st=st1 at *;have X:∀C:AV->Sta->Prop,C (zIs e.grow (zDT st1.H 30 0 (args.foldl (λa v=>hsA 8 v a) (List.range 0))) st1.m st1.mv v) (zG5 e.grow (zDT st1.H 30 0 (args.foldl (λa v=>hsA 8 v a) (List.range 0))) (zCH st1.H (zDT st1.H 30 0 (args.foldl (λa v=>hsA 8 v a) (List.range 0))) (args.foldl (λa v=>zE5 8 v a) [])) st1 f n)->zDU (zJY e) args st C:=λC hC=>by
  unfold zDU;have L:qJ (zJY e).grow args st=st1:=aa;simp only[L];unfold zHR;refine h8 _ ⟨⟨M,h4,hk⟩,?_⟩
  have g1:(zJY e).val us H V=some (v,f,n):=g1;simp only[g1];exact hC
 cases B:inpl e.grow with
 |true=>
  have t:∀hm sm,zG5 e.grow hm sm st1 f n=⟨st1.fr,st1.H,zG4 sm n st1.V,st1.m,st1.mv⟩:=λhm sm=>by unfold zG5;rw[B]
  have z:∀hm x,zIs e.grow hm st1.m st1.mv x=x:=λhm x=>by unfold zIs;rw[B]
  rw[t,z]at g3;have Y:PP v:=(he.h.uY B ⟨M,h4,hk⟩ g1).2.2.2.1;refine⟨v,u,_,g3,g2,λe=>(by cases e),(g2.pp Y).cp,⟨w.fr,w.H,?_,w.lt⟩,λC hC=>X C ?_,e3⟩
  .intro j vi W;obtain⟨aj,h0,⟨i,q1,O⟩|⟨rfl,_⟩⟩:=zO0 W
   .exact⟨(w.V _ _ h0).1,(N _ _ O).2⟩
   .exact w.V _ _ h0
  .rw[t,z];exact hC
 |false=>
 have t:∀hm sm,zG5 e.grow hm sm st1 f n=⟨st1.fr,zEi hm st1.mv f st1.H++zEh hm.length st1.m st1.mv f,zIr sm st1.mv n st1.V,st1.m+(f.length-hm.length),st1.mv+n.length⟩:=λhm sm=>by unfold zG5;rw[B]
 have z:∀hm x,zIs e.grow hm st1.m st1.mv x=vR hm st1.m st1.mv x:=λhm x=>by unfold zIs;rw[B]
 rw[t,z]at g3;generalize ak:zDT st1.H 30 0 (args.foldl (λa v=>hsA 8 v a) (List.range 0))=hm at *
 have ad:hm.length<=f.length:=by rw[←h5];exact o.u3
 have ab:CP (st1.mv+n.length) (st1.m+(f.length-hm.length)) (vR hm st1.m st1.mv u):=by
  have one:∀{v u:AV},OP1 n.length f.length v->WK v u->CP (st1.mv+n.length) (st1.m+(f.length-hm.length)) (wF hm st1.m st1.mv u):=λ{v u} hv g2=>by
   rcases hv with d|⟨j,rfl,W⟩|⟨i,oo,rfl,B⟩
   .have A:=g2.pp d;rw[zOm A];exact A.cp
   .cases g2;exact .sym _ (by show st1.mv+j<st1.mv+n.length;omega)
   .cases g2;unfold wF;dsimp only;split
    .rename_i hb;have S:i<hm.length:=by simpa[Qg]using hb
     refine .ptr _ _ (Nat.lt_add_right _ ?_)
     rw[List.getD_eq_getElem?_getD,QE S];exact K _ (Qi S)
    .rename_i hb;have:=zG9 hb;exact .ptr _ _ (by omega)
  have tp:∀{l l':JE},(∀u∈l,OP1 n.length f.length u)->l.length=l'.length->(∀(i:Nat) c c',l[i]?=some c->l'[i]?=some c'->WK c c')->CP (st1.mv+n.length) (st1.m+(f.length-hm.length)) (vR hm st1.m st1.mv (.qg l')):=λ{l l'} hl J h=>.qg _ λe he=>by
   obtain⟨y,hy,rfl⟩:=QL.1 he;obtain⟨i,B⟩:=List.getElem?_of_mem hy;have K:=(QC.1 B).1;have hv:=QE (show i<l.length from J▸K)
   exact one (hl _ (QF hv)) (h i _ y hv B)
  rcases o.pp with d|⟨l,rfl,hl⟩
  .cases u with
   |qg l=>
    rcases d with d|⟨_,rfl,_⟩|⟨_,_,rfl,_⟩
    .have A:=g2.pp d;rw[zUO A];exact A.cp
    .cases g2
    .cases g2
   |_=>exact one d g2
  .cases g2 with
   |refl=>exact tp hl rfl λi c c' h1 M=>by rw[h1]at M;cases M;exact .refl _
   |qg J h=>exact tp hl J h
 have F:∀{i:Nat}{str:Bool}{I:JE},(i,HO.cells str I)∈f->∀c∈I.map (rnB st1.mv),CP (st1.mv+n.length) (st1.m+(f.length-hm.length)) c:=λ{i str I} O c hc=>by
  obtain⟨c0,ag,rfl⟩:=QL.1 hc;obtain⟨ah,ai,e',R⟩:=o.cells _ O;cases e';rcases R c0 ag with d|⟨j,rfl,W⟩
  .rw[zRb d];exact d.cp
  .exact .sym _ (by show st1.mv+j<st1.mv+n.length;omega)
 refine⟨_,_,_,g3,g2.vR,λe=>(by cases e),ab,⟨?_,?_,?_,?_⟩,λC hC=>?_,QI e3 (Qt _ _)⟩
 .exact w.fr.mono (Qt _ _) (Qt _ _)
 .intro p d;rcases QH.1 d with d|d
  .rcases zEv (hm:=_) ad o.keys (λp d=>let ⟨a,b,c,_⟩:=o.cells p d;⟨a,b,c⟩) d with⟨q1,_⟩|⟨i,str,I,ho,q1,O,T,q4⟩
   .obtain⟨str,I,e,R⟩:=w.H p q1;exact⟨str,I,e,λc hc=>(R c hc).mono (Qt _ _) (Qt _ _)⟩
   .exact⟨str,_,T,F O⟩
  .obtain⟨i,str,I,q1,O,T,q4⟩:=zAe d;exact⟨str,_,q4,F T⟩
 .intro j vi W;rcases zCg W with⟨j',rfl,E⟩|⟨_,E⟩
  .refine⟨?_,(N _ _ E).2⟩
   have:=(N _ _ E).1;show st1.mv+j'<st1.mv+n.length
   omega
  .have:=w.V _ _ E;exact⟨QX this.1 (Qt _ _),this.2⟩
 .intro p d;rcases QH.1 d with d|d
  .have:p.1∈(zEi _ st1.mv f st1.H).keys:=List.mem_map_of_mem d;rw[zNE]at this;obtain⟨q,hq,e⟩:=QL.1 this;rw[←e];exact Nat.lt_add_right _ (w.lt q hq)
  .obtain⟨i,str,I,q1,O,T,q4⟩:=zAe d;have hk:i<f.length:=by
    have:i∈f.keys:=QL.2 ⟨_,T,rfl⟩;rw[o.keys,List.mem_range']at this;obtain⟨a,b,c⟩:=this;omega
   show p.1<st1.m+(f.length-hm.length)
   omega
 .exact X C (by rw[t,z];exact hC)
end
section
variable{β:Type}{P:Program}{U:Nat}{G:Cx}{tb:TbF}{th:TbH}{st:Sta}{r:β}
theorem zO8{th:TbH}{f:Nat}{e:FEnt}(h:zJL th f=some e):e∈th/\e.f=f:=by
 induction th with
 |nil=>cases h
 |cons s r a=>
  simp only[zJL]at h;split at h
  .rename_i q;cases h;exact⟨.head _,(zb q).symm⟩
  .exact⟨.tail _ (a h).1,(a h).2⟩
theorem zJN(w:TbW P G (tbS tb))(g:∀e∈th,FOK P G e)(m:GPP G){o:FOp}(a:zn o.o.op=true){k:AV->Sta->Option β}(s:CPS st)(h:zOB G tb th st o k=some r):∃v u p,Stp G tb st true k r (zA5 G (tbS tb) st (toT th o)) v u p:=by
 unfold zOB at h;unfold zA5 toT;split at h
 .rename_i n;simp only[n,Option.map_none];exact zOp w m a s h
 .rename_i D n;simp only[n,Option.map_some];unfold zU0 at h;unfold zKT;split at h
  .rename_i f args c;simp only[c];split at h
   .rename_i e j;obtain⟨q,A⟩:=zO8 j;simp only[zJM,j,Option.map_some];split at h
    .rename_i z l;simp only[l];have b:args.all zo=true:=by rw[c]at a;simp only[zn,XO.qb,zM,QO]at a;exact a
     exact zNJ (g e q) s (zEs m s.fr b l) h
    .cases h
   .cases h
  .rename_i B args c;simp only[c];have b:zo B=true/\args.all zo=true:=by rw[c]at a;simp only[zn,XO.qb,zM,List.all_append,QU,List.all_nil,QO,qr]at a;exact a
   split at h
   .rename_i E first y i;simp only[i];split at h
    .rename_i e j;obtain⟨q,A⟩:=zO8 j;simp only[zJM,j,Option.map_some];split at h
     .rename_i z l;simp only[l];refine zNJ (g e q) s (λx d=>?_) h
      have t:=zJ m s.fr b.1 i;cases t with
      |func _ _ _ q1 C=>
       rcases QH.1 d with d|d
       .rcases QH.1 d with d|d
        .exact q1 x d
        .exact zEs m s.fr b.2 l x d
       .exact C x d
     .cases h
    .cases h
   .cases h
  .cases h
theorem CPS.skip(s:CPS st){d:Option Nat}:CPS (st.put d (.qg [])):=s.qv (.qg _ λe a=>by cases a)
theorem CPS.vG{st:Sta}(s:CPS st)(F:JV):CPS (vG F (zEG F st.H) st):=by
 have e:HCP st.mv st.m (zEG F st.H):=λp a=>s.H p (zDv a).1
 refine⟨λt u d=>?_,λp a=>s.H p (zAi a).1,s.V,λp a=>s.lt p (zAi a).1⟩
 obtain⟨v,c,rfl⟩:=zIx d;have hc:=s.fr t v c;unfold zOy;split
 .exact hc
 .split
  .rename_i f b;exact(zLG e 8 hc b).cp
  .exact hc
theorem zVV(i:TbW P G (tbS tb))(l:∀e∈th,FOK P G e)(t:GPP G){o:FOp}(c:zn o.o.op=true){k:AV->Sta->Option β}(s:CPS st)(h:zRx G tb th st o k=some r):∃v u a,Stp G tb st true k r (zH5 G (tbS tb) st (toT th o)) v u a:=by
 unfold zRx at h;unfold zH5;cases j:zRv o.ks with
 |true=>
  have b:zRv (toT th o).ks=true:=j;rw[j]at h;rw[b];simp only at h⊢;obtain⟨v,u,a,q⟩:=zJN (o:=⟨o.o,o.ks.tail,o.h⟩) i l t c s.wv h;exact⟨v,u,a,q.k,q.vS,q.eq,q.cp,q.vj,q.w,q.le⟩
 |false=>
 have b:zRv (toT th o).ks=false:=j;rw[j]at h;rw[b];simp only at h⊢;have e:zOA (toT th o).h (toT th o).o.op=zOA o.h o.o.op:=by
  obtain⟨⟨d,op,g⟩,D,A⟩:=o;cases op<;>cases A<;>rfl
 rw[e];cases hf:zOA o.h o.o.op with
 |true=>
  rw[hf]at h;simp only at h⊢;have y:∀C,wop G (tbS tb) st o.o.op [] C->WXd st (xoS G zd st.fr st.H st.m o.o.op) C:=λC hc=>by
   cases ho:o.o.op<;>rw[ho]at hf hc<;>first|exact hc|cases hf
  have h:fop false G tb st o.o.op [] (λv st=>zWh st v k)=some r:=by
   cases ho:o.o.op<;>rw[ho]at hf h<;>first|exact h|cases hf
  obtain⟨v,u,a,q⟩:=zOp i t c s h;have B:=q.eq rfl;subst B;have hk:=q.k;unfold zWh at hk;split at hk
  .rename_i f;refine⟨_,_,_,hk,.refl _,λ_=>rfl,q.vj.wB q.cp,q.vj.wv,λC n=>y _ (q.w _ ?_),q.le⟩
   unfold zOz;rw[f];exact n
  .rename_i f;simp only at hk;split at hk
   .rename_i x z;refine⟨x,x,_,hk,.refl _,λ_=>rfl,(zLG (λp j=>q.vj.H p (zDv j).1) 8 q.cp z).cp,q.vj.vG _,λC n=>y _ (q.w _ ?_),q.le⟩
    unfold zOz;rw[f];simp only[z];exact n
   .cases hk
 |false=>
  rw[hf]at h;simp only at h⊢;exact zJN i l t c s h
theorem zIB(p:TbW P G (tbS tb))(n:∀e∈th,FOK P G e)(D:GPP G):∀{ops:List FOp}{k:Sta->Option β}{st:Sta},(∀o∈ops,zn o.o.op=true)->CPS st->zJX G tb th ops k st=some r →
  ∃a,k a=some r/\CPS a/\∀C:Sta->Prop,C a->zDq G (tbS tb) (ops.map (toT th)) C st
 |[],k,st,_,s,h=>⟨st,h,s,λC d=>d⟩
 |o::ops,k,st,x,s,h=>by
  have j:∀B∈ops,zn B.o.op=true:=λB F=>x B (.tail _ F)
  have step:∀{st:Sta},CPS st->zRx G tb th st o (λv st=>zJX G tb th ops k (st.put o.o.dst v))=some r->∃a,k a=some r/\CPS a/\∀C:Sta->Prop,C a->zH5 G (tbS tb) st (toT th o) λv st=>∃E,WK v E/\zDq G (tbS tb) (ops.map (toT th)) C (st.put o.o.dst E):=λ{st} s h=>by
   obtain⟨v,u,st1,q⟩:=zVV p n D (x o (.head _)) s h;obtain⟨a,h1,g,i⟩:=zIB p n D j (q.vj.qv q.cp) q.k;exact⟨a,h1,g,λC d=>q.w _ ⟨u,q.vS,i C d⟩⟩
  have skip:∀{st:Sta},CPS st->zJX G tb th ops k (st.put o.o.dst (.qg []))=some r->∃a,k a=some r/\CPS a/\∀C:Sta->Prop,C a->zDq G (tbS tb) (ops.map (toT th)) C (st.put o.o.dst (.qg [])):=λ{st} s h=>zIB p n D j s.skip h
  simp only[zJX]at h;split at h
  .rename_i y;obtain⟨a,h1,g,i⟩:=step s h;refine⟨a,h1,g,λC d=>?_⟩
   have f:(toT th o).o.guard=none:=y;simp only[Qa,zDq,f];exact i C d
  .rename_i t b y;have f:(toT th o).o.guard=some (t,b):=y;split at h
   .rename_i c hc;have h:=zHY h;have A:=qt hc;simp only[A]at h;have z:(⟨st.fr,st.H,st.V,st.m,st.mv⟩:Sta)=st:=rfl;rw[z]at h;split at h
    .rename_i l;obtain⟨a,h1,g,i⟩:=step s h;refine⟨a,h1,g,λC d=>?_⟩
     simp only[Qa,zDq,f,hc];unfold brT;have:=i C d;cases c<;>(simp only[Br,A,l];exact this)
    .rename_i l;obtain⟨a,h1,g,i⟩:=skip s h;refine⟨a,h1,g,λC d=>?_⟩
     simp only[Qa,zDq,f,hc];unfold brT;have:=i C d;cases c<;>(simp only[Br,A,l];exact this)
   .rename_i hc;obtain⟨a,h1,g,i⟩:=skip s h;refine⟨a,h1,g,λC d=>?_⟩
    simp only[Qa,zDq,f,hc];exact i C d
   .cases h
theorem zVW(g:TbW P G (tbS tb))(i:GPP G){o:XO}{c:List K}(b:zn o=true){k:AV->Sta->Option β}(s:CPS st)(h:zRz G tb st o c k=some r):∃v a,k v a=some r/\CP a.mv a.m v/\CPS a/\∀C:AV->Sta->Prop,C v a->zBO G (tbS tb) st o c C:=by
 have z:CPS ⟨st.fr,st.H,[],st.m,st.mv⟩:=⟨s.fr,s.H,λj f h=>(by cases h),s.lt⟩
 have gen:fop false G tb ⟨st.fr,st.H,[],st.m,st.mv⟩ o c (λv a=>k v ⟨a.fr,a.H,st.V,a.m,a.mv⟩)=some r->∃v a,k v a=some r/\CP a.mv a.m v/\CPS a/\∀C:AV->Sta->Prop,C v a->wop G (tbS tb) ⟨st.fr,st.H,[],st.m,st.mv⟩ o c (λv a=>C v ⟨a.fr,a.H,st.V,a.m,a.mv⟩):=λh=>by
  obtain⟨v,u,a,q⟩:=zOp g i b z h;have:=q.eq rfl;subst this;exact⟨u,_,q.k,q.cp,⟨q.vj.fr,q.vj.H,λj f l=>⟨QX (s.V j f l).1 q.le,(s.V j f l).2⟩,q.vj.lt⟩,λC d=>q.w _ d⟩
 cases o<;>first|(cases h;done)|exact gen h|skip
 case vB x=>
  simp only[zRz]at h;split at h
  .rename_i B;split at h
   .rename_i y hc;cases hb:zAZ y with
    |none=>rw[hb]at h;cases h
    |some t=>
     rw[hb]at h;exact⟨.str t,st,h,.str _,s,λC d=>by simp only[zBO];unfold WXd;simp only[xoS,B,hc,hb];exact d⟩
   .cases h
  .cases h
 have h:FXd st (xoS G zd st.fr st.H st.m _) k=some r:=h;unfold FXd at h;split at h
 .rename_i v H m e;obtain⟨h1,n⟩:=zKV (by rfl) b i s.fr s.H e
  obtain⟨A,p⟩:=zND (by rfl) s.lt e
  exact⟨v,_,h,h1,⟨s.fr.mono (QA _) p,n,s.V,A⟩,λC hc=>by simp only[zBO];unfold WXd;simp only[e];exact hc⟩
 .cases h
theorem zHc(l:TbW P G (tbS tb))(x:GPP G):∀{ops:List FOp}{k:Sta->Option β}{st:Sta},(∀o∈ops,zn o.o.op=true)->CPS st->zHb G tb ops k st=some r →
  ∃a,k a=some r/\CPS a/\∀C:Sta->Prop,C a->zBC G (tbS tb) (ops.map (toT th)) C st
 |[],k,st,_,s,h=>⟨st,h,s,λC d=>d⟩
 |o::ops,k,st,n,s,h=>by
  have i:∀w∈ops,zn w.o.op=true:=λw y=>n w (.tail _ y)
  have step:∀{st:Sta},CPS st->zRz G tb st o.o.op o.ks (λv st=>zHb G tb ops k (st.put o.o.dst v))=some r->∃a,k a=some r/\CPS a/\∀C:Sta->Prop,C a->zBO G (tbS tb) st o.o.op o.ks λv st=>zBC G (tbS tb) (ops.map (toT th)) C (st.put o.o.dst v):=λ{st} s h=>by
   obtain⟨v,st1,q1,B,z,A⟩:=zVW l x (n o (.head _)) s h;obtain⟨a,h1,f,g⟩:=zHc l x i (z.qv B) q1;exact⟨a,h1,f,λC d=>A _ (g C d)⟩
  have skip:∀{st:Sta},CPS st->zHb G tb ops k (st.put o.o.dst (.qg []))=some r->∃a,k a=some r/\CPS a/\∀C:Sta->Prop,C a->zBC G (tbS tb) (ops.map (toT th)) C (st.put o.o.dst (.qg [])):=λ{st} s h=>zHc l x i s.skip h
  simp only[zHb]at h;split at h
  .rename_i p;obtain⟨a,h1,f,g⟩:=step s h;refine⟨a,h1,f,λC d=>?_⟩
   have e:(toT th o).o.guard=none:=p;simp only[Qa,zBC,e];exact g C d
  .rename_i t b p;have e:(toT th o).o.guard=some (t,b):=p;split at h
   .rename_i c hc;have h:=zHY h;have u:=qt hc;simp only[u]at h;have q:(⟨st.fr,st.H,st.V,st.m,st.mv⟩:Sta)=st:=rfl;rw[q]at h;split at h
    .rename_i j;obtain⟨a,h1,f,g⟩:=step s h;refine⟨a,h1,f,λC d=>?_⟩
     simp only[Qa,zBC,e,hc];unfold brT;have:=g C d;cases c<;>(simp only[Br,u,j];exact this)
    .rename_i j;obtain⟨a,h1,f,g⟩:=skip s h;refine⟨a,h1,f,λC d=>?_⟩
     simp only[Qa,zBC,e,hc];unfold brT;have:=g C d;cases c<;>(simp only[Br,u,j];exact this)
   .rename_i hc;obtain⟨a,h1,f,g⟩:=skip s h;refine⟨a,h1,f,λC d=>?_⟩
    simp only[Qa,zBC,e,hc];exact g C d
   .cases h
theorem zHZ(o:FOp):clsQ (toT th o)=clsQ (toQ o):=by
 unfold clsQ toT toQ;cases o.h<;>rfl
theorem zNK:∀(ops:List FOp)(ds:List XD),zFO (ops.map (toT th)) ds=zFO (ops.map toQ) ds
 |[],_=>rfl
 |o::r,[]=>rfl
 |o::r,d::ds=>by
  simp only[Qa,zFO,zNK r ds];rfl
theorem zSN(o:FOp):hLd (toT th o)=hLd (toQ o):=by
 unfold hLd toT toQ;cases o.h<;>rfl
theorem zXU(o:FOp):vOn (toT th o)=vOn (toQ o):=by
 unfold vOn toT toQ;cases o.h<;>rfl
theorem zRk:∀(ops:List FOp)(ds:List XD)(i:Nat)(b c a f e:JV),zFV i b c a f e (ops.map (toT th)) ds=zFV i b c a f e (ops.map toQ) ds
 |[],_,_,_,_,_,_,_=>rfl
 |o::r,[],_,_,_,_,_,_=>rfl
 |o::r,d::ds,i,b,c,a,f,e=>by
  simp only[Qa,zFV,zRk r ds,zHZ,zSN,zXU]
theorem zVX{G:Cx}{tb:TblS}{st e:Sta}{t:TOp}(c:vOn t=true)(a:zA5 G tb st t λ_ x=>x=e):e.H=st.H/\e.m=st.m:=by
 obtain⟨⟨d,op,g⟩,i,h⟩:=t;unfold vOn at c;split at c
 .cases c
 rename_i f;have f:h=none:=f;subst f;unfold zA5 at a;split at c
 .rename_i b;have b:op=_:=b;subst b;simp only[wop]at a
  repeat' first
   |exact a.elim
   |(obtain⟨_,rfl⟩:=a;exact⟨rfl,rfl⟩)
   |split at a
 .rename_i b;have b:op=_:=b;subst b;split at c
  .rename_i hk;have hk:i=[]:=hk;subst hk;simp only[wop]at a
   repeat' first
    |exact a.elim
    |(subst a;exact⟨rfl,rfl⟩)
    |split at a
  .cases c
 .cases c
theorem zZa{lo:Option Nat}{st:Sta}{o:FOp}(h:okQ lo G st o=true)(d:hLd (toT th o)=true):(∃x sz e h off,(toT th o).o.op=.load x sz e/\(toT th o).ks=[.qg 0]/\x.ev G st.fr=some (.ptr h off))\/∃f xs vs,(toT th o).o.op=.call f xs/\evs G st.fr xs=some vs/\vs.any (zAU 8)=false:=by
 have hc:=zSJ d;rw[zHZ]at hc;unfold okQ at h;rw[hc]at h;simp only[qr]at h;have h:=h.1;unfold ldQ at h;have a:=d;rw[zSN]at d;rw[d]at h;simp only at h;unfold hLd at a;split at a
 .cases a
 split at a
 .cases a
 split at a
 .rename_i x sz e c;have b:o.o.op=.load x sz e:=c;rw[b]at h;split at a
  .rename_i hk;simp only at h;split at h
   .rename_i i off g;exact .inl ⟨x,sz,e,i,off,c,hk,g⟩
   .cases h
  .cases a
 .rename_i f xs c;have b:o.o.op=.call f xs:=c;rw[b]at h;simp only at h;split at h
  .rename_i vs g;exact .inr ⟨f,xs,vs,c,g,by simpa using h⟩
  .cases h
 .cases a
theorem Heap.vd{h h':Nat}(a:h'≠h):∀{H:Heap}{o:HO},(H.put h o).get h'=H.get h'
 |[],o=>by
  simp only[Heap.put,Heap.get]
 |(k,x)::r,o=>by
  simp only[Heap.put];cases hk:Nat.beq k h with
  |true=>
   have:=zb hk;subst this;simp only[Heap.get];cases hb:Nat.beq k h' with
   |true=>exact absurd (zb hb).symm a
   |false=>rfl
  |false=>
   simp only[Heap.get];split
   .rfl
   .exact Heap.vd a
theorem zZb{lo:Option Nat}{st:Sta}(s:CPS st){o:FOp}(h:okQ lo G st o=true)(hc:clsQ (toT th o)=1):(∀g v,XV.t g∈o.o.op.qb->st.fr.get g=some v->CP st.mv (zBP lo st.m) v)/\∀h str cs,h<zBP lo st.m->st.H.get h=some (.cells str cs)->∀x∈cs,CP st.mv (zBP lo st.m) x:=by
 rw[zHZ]at hc;unfold okQ at h;rw[hc]at h;simp only[qr]at h;have h:=h.2;cases lo with
 |none=>exact⟨λg v _ d=>s.fr g v d,λh str cs _ b x c=>by
   obtain⟨_,_,e,a⟩:=s.H.get b;cases e;exact a x c⟩
 |some l=>
  simp only[qr,QD]at h;refine⟨λg v b d=>?_,λj str cs i b x c=>?_⟩
  .have:=h.1 g (zCR b);rw[d]at this;exact(s.fr g v d).lt 12 this
  .obtain⟨_,_,e,a⟩:=s.H.get b;cases e;have f:=zQY h.2 (QX i (Nat.min_le_left _ _)) b;exact(a x c).lt 12 (QD.1 f x c)
theorem zVY(M:TbW P G (tbS tb))(O:∀e∈th,FOK P G e)(W:GPP G){o:FOp}(F:zn o.o.op=true){k:AV->Sta->Option β}(s:CPS st){lo:Option Nat}(j:okQ lo G st o=true)(h:zRy G tb th st o k=some r):∃v u a,Stp G tb st true k r (zA5 G (tbS tb) st (toT th o)) v u a ∧
  (clsQ (toT th o)<=1->HV st a)/\(clsQ (toT th o)=2->a.V=st.V/\a.mv=st.mv/\st.m<=a.m/\∀h,h<zBP lo st.m->a.H.get h=st.H.get h):=by
 unfold zRy at h;split at h
 .rename_i hc;obtain⟨v,u,a,q⟩:=zJN M O W F s h;have hk:=q.k;split at hk
  rotate_left
  .cases hk
  rename_i J;have J:=zb J;have hc:clsQ (toT th o)<=1:=by rw[zHZ];exact QN hc
  refine⟨v,u,a,⟨hk,q.vS,q.eq,q.cp,q.vj,q.w,q.le⟩,λ_=>?_,λp=>by omega⟩
  have i:(toT th o).h=none:=by
   cases A:(toT th o).h with
   |none=>rfl
   |some es=>unfold clsQ at hc;rw[A]at hc;simp at hc
  have b:=q.w (λ_ x=>x=a) rfl
  unfold zA5 at b;rw[i]at b;obtain⟨L,H,V,m,B⟩:=st;by_cases h1:clsQ (toT th o)=1
  .have b:=zUR (C':=λ_ x=>x=a/\HV ⟨L,H,V,m,B⟩ x) (m2:=m) (ms:=m) W F ⟨λ_ _=>rfl,λh str cs A hg c ab=>by
    obtain⟨_,_,e,Y⟩:=s.H.get hg;cases e;exact Y c ab⟩ (λt v _ D=>s.fr t v D) (cls1 i h1) (λv D=>⟨D,rfl,rfl,rfl,rfl⟩) b
   obtain⟨_,_,rfl,E⟩:=zK6 b;exact E
  .rcases cls0 i (by omega)with hk|⟨hk,⟨x,T,ag,e⟩|⟨len,T,z,ps,e⟩⟩
   .have b:=zUQ (C':=λ_ x=>x=a/\HV ⟨L,H,V,m,B⟩ x) (H2:=H) (V2:=V) (m2:=m) (mv2:=B) hk.1 hk.2 (λv x K=>by rw[K];exact J) (λv f D=>⟨D,rfl,rfl,rfl,rfl⟩) b
    obtain⟨_,_,rfl,E⟩:=zK6 b;exact E
   .have b:wop G (tbS tb) ⟨L,H,V,m,B⟩ (toT th o).o.op (toT th o).ks (λ_ x=>x=a):=b
    rw[e]at b;have b:=zUT (C:=λ_ x=>x=a) (C':=λ_ x=>x=a/\HV ⟨L,H,V,m,B⟩ x) (H2:=H) (V2:=V) (m2:=m) (mv2:=B) hk (λv D=>⟨D,rfl,rfl,rfl,rfl⟩) b
    obtain⟨_,_,rfl,E⟩:=zK6 b;exact E
   .have b:wop G (tbS tb) ⟨L,H,V,m,B⟩ (toT th o).o.op (toT th o).ks (λ_ x=>x=a):=b
    rw[e]at b;have b:=zUS (C:=λ_ x=>x=a) (C':=λ_ x=>x=a/\HV ⟨L,H,V,m,B⟩ x) (H2:=H) (V2:=V) (m2:=m) (mv2:=B) hk (λv D=>⟨D,rfl,rfl,rfl,rfl⟩) b
    obtain⟨_,_,rfl,E⟩:=zK6 b;exact E
 .rename_i hc;obtain⟨v,u,a,q⟩:=zJN M O W F s h;have hc:¬clsQ (toT th o)<=1:=by
   rw[zHZ];intro N;rw[Nat.ble_eq_true_of_le N]at hc;cases hc
  refine⟨v,u,a,q,λh1=>absurd h1 hc,λp=>?_⟩
  have i:(toT th o).h=none:=by
   cases A:(toT th o).h with
   |none=>rfl
   |some es=>unfold clsQ at p;rw[A]at p;simp at p
  have b:=q.w (λ_ x=>x=a) rfl
  unfold zA5 at b;rw[i]at b;have I:∀{o':XO},zP o'=2->WXd st (xoS G zd st.fr st.H st.m o') (λ_ x=>x=a)->a.V=st.V/\a.mv=st.mv/\st.m<=a.m/\∀h,h<zBP lo st.m->a.H.get h=st.H.get h:=λhk b=>by
   unfold WXd at b;split at b
   .rename_i v' H' n e;subst b;obtain⟨ob,_,rfl,rfl⟩:=zQV hk e;refine⟨rfl,rfl,QT _,λh A=>?_⟩
    have:h≠st.m:=by have:=zXF (lo:=lo) (m:=st.m);omega
    simp only[Heap.get];cases hb:Nat.beq st.m h with
    |true=>exact absurd (zb hb).symm this
    |false=>rfl
   .exact b.elim
  obtain⟨⟨d,op,g⟩,ks,A⟩:=o;have aa:A=none:=by
   cases A with
   |none=>rfl
   |some _=>cases i
  subst aa;simp only[clsQ,toT,Option.map_none]at p;simp only[toT]at b;cases op<;>first|(simp[zP]at p;done)|(simp only at p;split at p<;>cases p;done)|exact I (by rfl) b|exact I (o':=.alloc _) rfl b|skip
  .cases ks with
   |nil=>cases p
   |cons k0 ks=>
    cases k0 with
    |c u=>cases p
    |_=>exact I (o':=.qy _ _ _ _) rfl b
  .rename_i x y T _;simp only at p;split at p
   .cases p
   .rename_i ac;have X:clsQ (toQ ⟨⟨d,.store x y T,g⟩,ks,none⟩)=2:=by
     unfold clsQ toQ;simp only[Option.map_none]
    have R:∃l h off,lo=some l/\x.ev G st.fr=some (.ptr h off)/\l<=h:=by
     unfold okQ at j;rw[X]at j;simp only at j;split at j
     .split at j
      .rename_i K;exact⟨_,_,_,rfl,K,QN j⟩
      .cases j
     .cases j
    obtain⟨l,h,off,rfl,K,N⟩:=R;simp only[wop,K]at b;unfold WXd at b;split at b
    .rename_i v' H' n e;subst b;simp only[xoS,K]at e;split at e
     .rename_i he _;cases he;split at e
      .split at e
       .split at e
        .cases e;refine⟨rfl,rfl,QA _,λh' A=>?_⟩
         have S:h'≠h:=by
          have:zBP (some l) st.m<=l:=Nat.min_le_left _ _;omega
         exact Heap.vd S
        .cases e
       .cases e
      .cases e
     .cases e
    .exact b.elim
theorem zHd(D:TbW P G (tbS tb))(B:∀e∈th,FOK P G e)(R:GPP G){lo:Option Nat}:∀{ops:List FOp}{k:Sta->Option β}{st:Sta},(∀o∈ops,zn o.o.op=true)->CPS st->zGw lo G tb th ops k st=some r →
  ∃c:Nat->Sta,c 0=st/\ChQ G (tbS tb) lo (ops.map (toT th)) c/\CPS (c ops.length)/\k (c ops.length)=some r
 |[],k,st,_,s,h=>⟨λ_=>st,rfl,⟨λi t a=>(by cases a),λi t a=>(by cases a),λi t a=>(by cases a),λi _=>⟨s.fr,s.H⟩,λi t a=>(by cases a),λi t a=>(by cases a),λi t a=>(by cases a)⟩,s,h⟩
 |o::ops,k,st,I,s,h=>by
  have p:∀O∈ops,zn O.o.op=true:=λO T=>I O (.tail _ T)
  have l:okQ lo G st o=true:=by
   simp only[zGw]at h;split at h
   .assumption
   .cases h
  have join:∀{f:Nat->Sta},ChQ G (tbS tb) lo (ops.map (toT th)) f->zC8 G (tbS tb) st (toT th o) (λx=>x=f 0)->(clsQ (toT th o)<=1->HV st (f 0)) →
    (clsQ (toT th o)=2->(f 0).V=st.V/\(f 0).mv=st.mv/\st.m<=(f 0).m/\∀h,h<zBP lo st.m->(f 0).H.get h=st.H.get h)->(vOn (toT th o)=true->(f 0).H=st.H/\(f 0).m=st.m)->CPS (f ops.length)->k (f ops.length)=some r →
    ∃c:Nat->Sta,c 0=st/\ChQ G (tbS tb) lo ((o::ops).map (toT th)) c/\CPS (c (o::ops).length)/\k (c (o::ops).length)=some r:=λ{f} A h1 E F L W X=>by
   refine⟨λn=>match n with
    |0=>st
    |n+1=>f n,rfl,⟨λi t a=>?_,λi t a=>?_,λi t a=>?_,λi hi=>?_,λi t a=>?_,λi t a=>?_,λi t a=>?_⟩,W,X⟩
   .cases i with
    |zero=>cases a;exact h1
    |succ i=>exact A.st i t a
   .cases i with
    |zero=>cases a;exact E
    |succ i=>exact A.hv i t a
   .cases i with
    |zero=>cases a;exact F
    |succ i=>exact A.al i t a
   .cases i with
    |zero=>exact⟨s.fr,s.H⟩
    |succ i=>exact A.cp i (by simpa using hi)
   .cases i with
    |zero=>cases a;exact L
    |succ i=>exact A.vo i t a
   .cases i with
    |zero=>cases a;exact zZa l
    |succ i=>exact A.ld i t a
   .cases i with
    |zero=>cases a;exact zZb s l
    |succ i=>exact A.rd i t a
  have step:zRy G tb th st o (λv st=>zGw lo G tb th ops k (st.put o.o.dst v))=some r->(∀C:Sta->Prop,(zA5 G (tbS tb) st (toT th o) λv st=>∃S,WK v S/\C (st.put o.o.dst S))->zC8 G (tbS tb) st (toT th o) C) →
    ∃c:Nat->Sta,c 0=st/\ChQ G (tbS tb) lo ((o::ops).map (toT th)) c/\CPS (c (o::ops).length)/\k (c (o::ops).length)=some r:=λh N=>by
   obtain⟨v,u,st1,q,q1,q2⟩:=zVY D B R (I o (.head _)) s l h;obtain⟨f,j,h1,E,F⟩:=zHd D B R p (q.vj.qv q.cp) q.k;have e:∀{d:Option Nat},HV st1 (st1.put d u):=λ{d}=>by cases d<;>exact⟨rfl,rfl,rfl,rfl⟩
   refine join h1 (N _ (q.w _ ⟨u,q.vS,j.symm⟩)) (λhc=>?_) (λhc=>?_) (λhc=>?_) E F
   .rw[j];exact(q1 hc).trans e
   .obtain⟨a1,a2,a3,a4⟩:=q2 hc;rw[j];have e:=e (d:=o.o.dst);rw[e.V,e.mv,e.m,e.H];exact⟨a1,a2,a3,a4⟩
   .have Y:=zVX hc (q.w (λ_ x=>x=st1) rfl)
    rw[j];have e:=e (d:=o.o.dst);rw[e.m,e.H];exact Y
  have skip:zGw lo G tb th ops k (st.put o.o.dst (.qg []))=some r->(∀C:Sta->Prop,C (st.put o.o.dst (.qg []))->zC8 G (tbS tb) st (toT th o) C) →
    ∃c:Nat->Sta,c 0=st/\ChQ G (tbS tb) lo ((o::ops).map (toT th)) c/\CPS (c (o::ops).length)/\k (c (o::ops).length)=some r:=λh N=>by
   obtain⟨f,j,h1,E,F⟩:=zHd D B R p s.skip h;have e:∀{d:Option Nat},HV st (st.put d (.qg [])):=λ{d}=>by cases d<;>exact⟨rfl,rfl,rfl,rfl⟩
   refine join h1 (N _ j.symm) (λhc=>?_) (λhc=>?_) (λhc=>?_) E F
   .rw[j];exact e
   .have e:=e (d:=o.o.dst);rw[j,e.V,e.mv,e.m,e.H];exact⟨rfl,rfl,QA _,λ_ _=>rfl⟩
   .have e:=e (d:=o.o.dst);rw[j,e.m,e.H];exact⟨rfl,rfl⟩
  simp only[zGw,l]at h;split at h
  .rename_i J;refine step h λC z=>?_
   have g:(toT th o).o.guard=none:=J;simp only[zC8,g];exact z
  .rename_i t b J;have g:(toT th o).o.guard=some (t,b):=J;split at h
   .rename_i c hc;have h:=zHY h;have M:=qt hc;simp only[M]at h;have K:(⟨st.fr,st.H,st.V,st.m,st.mv⟩:Sta)=st:=rfl;rw[K]at h;split at h
    .rename_i y;refine step h λC z=>?_
     simp only[zC8,g,hc];unfold brT;cases c<;>(simp only[Br,M,y];exact z)
    .rename_i y;refine skip h λC z=>?_
     simp only[zC8,g,hc];unfold brT;cases c<;>(simp only[Br,M,y];exact z)
   .rename_i hc;refine skip h λC z=>?_
    simp only[zC8,g,hc];exact z
   .cases h
def mkT(U:Nat)(G:Cx)(tb:TbF)(th:TbH)(r:β):FC->(JV->Ext->Sta->Option β)->TC
 |.skip,_=>.skip
 |.ret,_=>.ret
 |.exit i,_=>.exit i
 |.wA e,_=>.wA (e.map (toT th))
 |.draw h e g,_=>.draw h (e.map (toT th)) g
 |.qS e g,_=>.qS (e.map (toT th)) g
 |.seq a b,K=>.seq (mkT U G tb th r a λd=>zEK (K d) (FT U G tb th b (K d))) (mkT U G tb th r b K)
 |.cond c a b,K=>.cond c (mkT U G tb th r a K) (mkT U G tb th r b K)
 |.block i b,K=>.block i (mkT U G tb th r b λd=>zJf i (K d))
 |.qE k b,K=>.qE k (mkT U G tb th r b λd=>match d with
   |n::d=>zEK (K d) (zFs (FT U G tb th b) (K d) n)
   |[]=>λ_ _=>none)
 |.loop _ c b,K=>.loop c (λd f H V=>match d with
   |n::d=>CPS (mkW c f H V)/\zIz (FT U G tb th b) c (K d) n f H V=some r
   |[]=>False) (mkT U G tb th r b λd=>match d with
   |n::d=>zPK c (K d) (zIz (FT U G tb th b) c (K d) (n-1))
   |[]=>λ_ _=>none)
 |.wi _ c a b,K=>.wi c (λd f H V=>CPS (mkW c f H V)/\FT U G tb th b (K d) (mkW c f H V)=some r)
   (mkT U G tb th r a λd=>zEK (K d) (zLj c λf H V=>FT U G tb th b (K d) (mkW c f H V))) (mkT U G tb th r b K)
def fcOK:FC->Bool
 |.wA c|.draw _ c _|.qS c _=>c.all λt=>zn t.o.op
 |.seq a b|.wi _ _ a b|.cond _ a b=>fcOK a&&fcOK b
 |.block _ b|.loop _ _ b|.qE _ b=>fcOK b
 |_=>true
def fcN(pn:JV):FC->Bool
 |.wA c|.qS c _=>c.all λt=>match t.o.dst with
  |some d=>!inN d pn
  |none=>true
 |.draw e c _=>(c.all λt=>match t.o.dst with
  |some d=>!inN d pn
  |none=>true)&&pn.all λt=>inN t e
 |.seq a b|.wi _ _ a b|.cond _ a b=>fcN pn a&&fcN pn b
 |.block _ b|.loop _ _ b|.qE _ b=>fcN pn b
 |_=>true
theorem zGL:∀{fc:FC}{K:JV->Ext->Sta->Option β},er (mkT U G tb th r fc K)=ef fc
 |.skip,_|.ret,_|.exit _,_=>rfl
 |.wA c,_=>by simp only[mkT,er,ef,List.map_map];rfl
 |.draw _ c _,_=>by simp only[mkT,er,ef,List.map_map];rfl
 |.qS c _,_=>by simp only[mkT,er,ef,List.map_map];rfl
 |.seq a b,_=>by simp only[mkT,er,ef,zGL]
 |.cond _ a b,_=>by simp only[mkT,er,ef,zGL]
 |.block _ b,_=>by simp only[mkT,er,ef,zGL]
 |.loop _ _ b,_=>by simp only[mkT,er,ef,zGL]
 |.qE _ b,_=>by simp only[mkT,er,ef,zGL]
 |.wi _ _ a b,_=>by simp only[mkT,er,ef,zGL]
theorem zGM:∀{fc:FC}{K:JV->Ext->Sta->Option β},zCD (mkT U G tb th r fc K)=fcOK fc
 |.skip,_|.ret,_|.exit _,_=>rfl
 |.wA c,_=>by simp only[mkT,zCD,fcOK,List.all_map];rfl
 |.draw _ c _,_=>by simp only[mkT,zCD,fcOK,List.all_map];rfl
 |.qS c _,_=>by simp only[mkT,zCD,fcOK,List.all_map];rfl
 |.seq a b,_=>by simp only[mkT,zCD,fcOK,zGM]
 |.cond _ a b,_=>by simp only[mkT,zCD,fcOK,zGM]
 |.block _ b,_=>by simp only[mkT,zCD,fcOK,zGM]
 |.loop _ _ b,_=>by simp only[mkT,zCD,fcOK,zGM]
 |.qE _ b,_=>by simp only[mkT,zCD,fcOK,zGM]
 |.wi _ _ a b,_=>by simp only[mkT,zCD,fcOK,zGM]
theorem zJO{pn:JV}:∀{fc:FC}{K:JV->Ext->Sta->Option β},tcN pn (mkT U G tb th r fc K)=fcN pn fc
 |.skip,_|.ret,_|.exit _,_=>rfl
 |.wA c,_=>by simp only[mkT,tcN,fcN,List.all_map];rfl
 |.draw _ c _,_=>by simp only[mkT,tcN,fcN,List.all_map];rfl
 |.qS c _,_=>by simp only[mkT,tcN,fcN,List.all_map];rfl
 |.seq a b,_=>by simp only[mkT,tcN,fcN,zJO]
 |.cond _ a b,_=>by simp only[mkT,tcN,fcN,zJO]
 |.block _ b,_=>by simp only[mkT,tcN,fcN,zJO]
 |.loop _ _ b,_=>by simp only[mkT,tcN,fcN,zJO]
 |.qE _ b,_=>by simp only[mkT,tcN,fcN,zJO]
 |.wi _ _ a b,_=>by simp only[mkT,tcN,fcN,zJO]
theorem zFS(c:∀e∈th,FOK P G e):∀{fc:FC}{K:JV->Ext->Sta->Option β},tcH (HOK P G) (mkT U G tb th r fc K)
 |.skip,_|.ret,_|.exit _,_=>trivial
 |.wA g,_=>by
  intro t i m d e l;obtain⟨o,_,rfl⟩:=QL.1 i;simp only[toT]at d;cases ho:o.h with
  |none=>rw[ho]at d;cases d
  |some p=>
   rw[ho,Option.map_some]at d;cases d;obtain⟨j,f,rfl⟩:=QL.1 l;exact(c j f).h
 |.draw _ g _,_=>trivial
 |.qS g _,_=>by
  intro t i m d e l;obtain⟨o,_,rfl⟩:=QL.1 i;simp only[toT]at d;cases ho:o.h with
  |none=>rw[ho]at d;cases d
  |some p=>
   rw[ho,Option.map_some]at d;cases d;obtain⟨j,f,rfl⟩:=QL.1 l;exact(c j f).h
 |.seq a b,_=>⟨zFS c,zFS c⟩
 |.cond _ a b,_=>⟨zFS c,zFS c⟩
 |.block _ b,_=>zFS (fc:=b) c
 |.loop _ _ b,_=>zFS (fc:=b) c
 |.qE _ b,_=>zFS (fc:=b) c
 |.wi _ _ a b,_=>⟨zFS c,zFS c⟩
theorem zEL(g:TbW P G (tbS tb))(l:∀e∈th,FOK P G e)(u:GPP G):∀{fc:FC}{K:JV->Ext->Sta->Option β}{gs:JV}{Q:Ext->Sta->Prop}{st:Sta},fcOK fc=true->CPS st->FT U G tb th fc (K gs) st=some r →
  (∀x m,CPS m->K gs x m=some r->Q x m)->WT G (tbS tb) (mkT U G tb th r fc K) gs Q st
 |.skip,K,gs,Q,st,_,s,h,f=>f _ _ s h
 |.ret,K,gs,Q,st,_,s,h,f=>f _ _ s h
 |.exit i,K,gs,Q,st,_,s,h,f=>f _ _ s h
 |.wA w,K,gs,Q,st,d,s,h,f=>by
  obtain⟨m,h1,v,y⟩:=zIB g l u (λo C=>QD.1 d o C) s h
  exact y _ (f _ _ v h1)
 |.draw X w O,K,gs,Q,st,d,s,h,f=>by
  simp only[FT]at h;split at h
  .rename_i E;obtain⟨m,h1,v,y⟩:=zHc (th:=th) g u (λo C=>QD.1 d o C) s h
   have e:(w.map (toT th)).map TOp.o=w.map FOp.o:=by rw[List.map_map];rfl
   simp only[mkT,WT,e,E];exact y _ (f _ _ v h1)
  .cases h
 |.qS w O,K,gs,Q,st,d,s,h,f=>by
  simp only[FT]at h;split at h
  .rename_i E;obtain⟨c,M,h1,v,y⟩:=zHd g l u (λo C=>QD.1 d o C) s h
   simp only[mkT,WT];refine⟨by rw[zNK,zRk];exact E,_,c,M,h1,?_⟩
   rw[QP];exact f _ _ v y
  .cases h
 |.seq a b,K,gs,Q,st,d,s,h,f=>by
  simp only[fcOK,qr]at d;refine zEL g l u (fc:=a) (K:=λgs=>zEK (K gs) (FT U G tb th b (K gs))) d.1 s h λx m q p=>?_
  cases x with
  |normal=>exact zEL g l u d.2 q p f
  |exit i=>exact f _ _ q p
  |ret=>exact f _ _ q p
 |.cond c a b,K,gs,Q,st,d,s,h,f=>by
  simp only[fcOK,qr]at d;simp only[FT]at h;simp only[mkT,WT];split at h
  .rename_i I z;rw[z];split at h
   .rename_i n;have h:=zHY h;have D:st.fr.get n=some (.bool I):=z;have F:=qt D;simp only[F]at h;unfold brT;cases I with
    |true=>simp only[Br,F];exact zEL g l u d.1 s h f
    |false=>simp only[Br,F];exact zEL g l u d.2 s h f
   .rename_i A;rcases zJg h with⟨rfl,h⟩|⟨rfl,h⟩
    .cases c with
     |t n=>exact absurd rfl (A n)
     |_=>exact zEL g l u d.1 s h f
    .cases c with
     |t n=>exact absurd rfl (A n)
     |_=>exact zEL g l u d.2 s h f
  .cases h
 |.block i b,K,gs,Q,st,d,s,h,f=>by
  refine zEL g l u (fc:=b) (K:=λgs=>zJf i (K gs)) d s h λx m q p=>?_
  cases x with
  |normal=>exact f _ _ q p
  |ret=>exact f _ _ q p
  |exit j=>
   simp only[zJf]at p;simp only[zQX];split at p
   .rename_i e;simp only[e];exact f _ _ q p
   .rename_i e;simp only[e];exact f _ _ q p
 |.qE k b,K,gs,Q,st,d,s,h,f=>by
  have key:∀(n:Nat)(st:Sta),CPS st->zFs (FT U G tb th b) (K gs) n st=some r->zLE (λn Q st=>WT G (tbS tb) (mkT U G tb th r b λgs=>match gs with
    |n::gs=>zEK (K gs) (zFs (FT U G tb th b) (K gs) n)
    |[]=>λ_ _=>none) (n::gs) Q st) Q n st:=by
   intro n
   induction n with
   |zero=>intro st _ h;cases h
   |succ n T=>
    intro st s h;refine zEL g l u (fc:=b) (K:=λgs=>match gs with
     |n::gs=>zEK (K gs) (zFs (FT U G tb th b) (K gs) n)
     |[]=>λ_ _=>none) (gs:=n::gs) d s h λx m q p=>?_
    cases x with
    |normal=>exact T m q p
    |exit i=>exact f _ _ q p
    |ret=>exact f _ _ q p
  exact key k st s h
 |.loop id c b,K,gs,Q,st,d,s,h,f=>by
  obtain⟨B,H,V,h1,v,y⟩:=zFu s h;refine⟨⟨U,y _ ⟨v,h1⟩⟩,?_⟩
  rintro n B H V ⟨s1,hl⟩
  cases n with
  |zero=>cases hl
  |succ n=>
   refine zEL g l u (fc:=b) (K:=λgs=>match gs with
    |n::gs=>zPK c (K gs) (zIz (FT U G tb th b) c (K gs) (n-1))
    |[]=>λ_ _=>none) (gs:=(n+1)::gs) d s1 hl λx m q p=>?_
   cases x with
   |normal=>
    obtain⟨R,Y,W,L,S,N⟩:=zFu q p;exact⟨n,QR n,N _ ⟨S,L⟩⟩
   |exit i=>exact f _ _ q p
   |ret=>exact f _ _ q p
 |.wi id c a b,K,gs,Q,st,d,s,h,f=>by
  simp only[fcOK,qr]at d;refine⟨zEL g l u (fc:=a) (K:=λgs=>zEK (K gs) (zLj c λB H V=>FT U G tb th b (K gs) (mkW c B H V))) d.1 s h λx m q p=>?_,λB H V J=>zEL g l u d.2 J.1 J.2 f⟩
  cases x with
  |normal=>
   obtain⟨B,H,V,h1,v,y⟩:=zFu q p;exact y _ ⟨v,h1⟩
  |exit i=>exact f _ _ q p
  |ret=>exact f _ _ q p
theorem zBa(g:TbW P G (tbS tb))(l:∀e∈th,FOK P G e)(q:GPP G):∀{fc:FC}{K:Ext->Sta->Option β}{st:Sta},fcOK fc=true->CPS st->FT U G tb th fc K st=some r->∃x f,CPS f/\K x f=some r
 |.skip,K,st,_,s,h=>⟨_,_,s,h⟩
 |.ret,K,st,_,s,h=>⟨_,_,s,h⟩
 |.exit i,K,st,_,s,h=>⟨_,_,s,h⟩
 |.wA w,K,st,d,s,h=>by
  obtain⟨f,h1,t,z⟩:=zIB g l q (λo v=>QD.1 d o v) s h
  exact⟨_,_,t,h1⟩
 |.draw N w E,K,st,d,s,h=>by
  simp only[FT]at h;split at h
  .obtain⟨f,h1,t,z⟩:=zHc (th:=th) g q (λo v=>QD.1 d o v) s h
   exact⟨_,_,t,h1⟩
  .cases h
 |.qS w E,K,st,d,s,h=>by
  simp only[FT]at h;split at h
  .obtain⟨c,M,h1,t,z⟩:=zHd (th:=th) g l q (λo v=>QD.1 d o v) s h
   exact⟨_,_,t,z⟩
  .cases h
 |.seq a b,K,st,d,s,h=>by
  simp only[fcOK,qr]at d;obtain⟨x,f,p,m⟩:=zBa g l q (fc:=a) d.1 s h;cases x with
  |normal=>exact zBa g l q d.2 p m
  |exit i=>exact⟨_,_,p,m⟩
  |ret=>exact⟨_,_,p,m⟩
 |.cond c a b,K,st,d,s,h=>by
  simp only[fcOK,qr]at d;simp only[FT]at h;split at h
  .rename_i C y;split at h
   .rename_i n;have h:=zHY h;have F:=qt (show st.fr.get n=some (.bool C)from y)
    simp only[F]at h;cases C with
    |true=>exact zBa g l q d.1 s h
    |false=>exact zBa g l q d.2 s h
   .rcases zJg h with⟨_,h⟩|⟨_,h⟩
    .exact zBa g l q d.1 s h
    .exact zBa g l q d.2 s h
  .cases h
 |.block i b,K,st,d,s,h=>by
  obtain⟨x,f,p,m⟩:=zBa g l q (fc:=b) d s h;cases x with
  |normal=>exact⟨_,_,p,m⟩
  |ret=>exact⟨_,_,p,m⟩
  |exit j=>
   simp only[zJf]at m;split at m
   .exact⟨_,_,p,m⟩
   .exact⟨_,_,p,m⟩
 |.qE k b,K,st,d,s,h=>by
  have key:∀(n:Nat)(st:Sta),CPS st->zFs (FT U G tb th b) K n st=some r->∃x f,CPS f/\K x f=some r:=by
   intro n
   induction n with
   |zero=>intro st _ h;cases h
   |succ n B=>
    intro st s h;obtain⟨x,f,p,m⟩:=zBa g l q (fc:=b) d s h;cases x with
    |normal=>exact B f p m
    |exit i=>exact⟨_,_,p,m⟩
    |ret=>exact⟨_,_,p,m⟩
  exact key k st s h
 |.loop id c b,K,st,d,s,h=>by
  obtain⟨u,H,V,h1,t,_⟩:=zFu s h;have key:∀(n:Nat) u H V,CPS (mkW c u H V)->zIz (FT U G tb th b) c K n u H V=some r->∃x f,CPS f/\K x f=some r:=by
   intro n
   induction n with
   |zero=>intro u H V _ h;cases h
   |succ n B=>
    intro u H V s h;obtain⟨x,f,p,m⟩:=zBa g l q (fc:=b) d s h;cases x with
    |normal=>
     obtain⟨A,L,I,D,J,_⟩:=zFu p m;exact B A L I J D
    |exit i=>exact⟨_,_,p,m⟩
    |ret=>exact⟨_,_,p,m⟩
  exact key _ u H V t h1
 |.wi id c a b,K,st,d,s,h=>by
  simp only[fcOK,qr]at d;obtain⟨x,f,p,m⟩:=zBa g l q (fc:=a) d.1 s h;cases x with
  |normal=>
   obtain⟨u,H,V,h1,t,_⟩:=zFu p m;exact zBa g l q d.2 t h1
  |exit i=>exact⟨_,_,p,m⟩
  |ret=>exact⟨_,_,p,m⟩
end
structure FFn where
 np:Nat
 nt:Nat
 fc:FC
 res:List XR
 gr:JN:=[]
def zPM(gr:JN)(a:List XR)(pn:JV)(x:Ext)(st:Sta):Option (AV×Heap×Vecs):=zOC a pn x (zCy gr st)
def FFn.xf(x:FFn):XF:=⟨x.np,x.nt,ef x.fc,x.res⟩
def zWj(U:Nat)(G:Cx)(tb:TbF)(th:TbH)(x:FFn)(args:JE):JF:=match Nat.beq args.length x.np with
 |true=>FT U G tb th x.fc (zTF x.res) ⟨qG 0 args,[],[],0,0⟩
 |false=>none
def zTG(U:Nat)(G:Cx)(tb:TbF)(th:TbH)(x:FFn)(pn:JV)(args:JE)(H:Heap)(V:Vecs):Option (AV×Heap×Vecs):=match Nat.beq args.length x.np&&zGg (qG 0 args) 0 pn&&Nat.beq pn.length H.length with
 |true=>FT U G tb th x.fc (zPM x.gr x.res pn) ⟨qG 0 args,H,V,H.length,V.length⟩
 |false=>none
section
variable{P:Program}{U:Nat}{G:Cx}{tb:TbF}{th:TbH}{st:Sta}
theorem FnX.enters{P:Program}{f:Nat}{g:XF}(hx:FnX P f g):Enters P f:=by
 obtain⟨fn,e,b,a⟩:=hx.ok;unfold compF at b;obtain⟨d,c,b⟩:=za b;exact⟨fn,d,e,c,a⟩
theorem zXV(s:CPS st):∀(d:Nat){v v':AV},CP st.mv st.m v->zAJ st.H st.V d v=some v'->PP v':=by
 intro d
 induction d with
 |zero=>intro v v' _ h;cases h
 |succ d z=>
  intro v v' hc h;have n:∀{l B:JE},(∀e∈l,CP st.mv st.m e)->zp (zAJ st.H st.V d) l=some B->∀e∈B,PP e:=λI L=>by
   obtain⟨m1,m2⟩:=zAz L;intro x K;obtain⟨i,y⟩:=List.getElem?_of_mem K;have o:=(QC.1 y).1;have A:=QE (show i<_ from m1▸o)
   exact z (I _ (QF A)) (m2 i _ x A y)
  cases hc with
  |sym j T=>
   simp only[zAJ]at h;split at h
   .rename_i N;cases h;exact .qo _ _ (s.V _ _ N).2
   .cases h
  |agg F g=>
   simp only[zAJ]at h;split at h
   .rename_i c;cases h;exact .agg _ (n g c)
   .cases h
  |qg F g=>
   simp only[zAJ]at h;split at h
   .rename_i c;cases h;exact .qg _ (n g c)
   .cases h
  |ptr R off hk=>
   simp only[zAJ]at h;split at h
   .rename_i E;obtain⟨_,_,e,p⟩:=s.H.get E;cases e;split at h
    .rename_i c;cases h;exact .qc _ _ (.agg _ (n p c))
    .cases h
   .cases h
  |iface t u J=>
   simp only[zAJ]at h;split at h
   .rename_i c;cases h;exact .iface _ _ (z J c)
   .cases h
  |func f a b M D=>
   simp only[zAJ]at h;split at h
   .rename_i h1;split at h
    .rename_i C;cases h;exact .func _ _ _ (n M h1) (n D C)
    .cases h
   .cases h
  |bool b=>cases h;exact .bool _
  |int q m=>cases h;exact .int _ _
  |str s=>cases h;exact .str _
  |qj=>cases h;exact .qj
  |qa=>cases h;exact .qa
  |qm=>cases h;exact .qm
  |ql=>cases h;exact .ql
  |qe=>cases h;exact .qe
  |qc e off w=>cases h;exact .qc _ _ w
  |qo O S w=>cases h;exact .qo _ _ w
  |_=>cases h
theorem zLc(s:CPS st){rs:List XR}{vs:JE}(h:zES st.H st.fr rs=some vs):CP st.mv st.m (zA4 vs):=zMC (zOo s.fr s.H h)
theorem zO9{a:List XR}{x:Ext}{v:AV}(s:CPS st)(h:zTF a x st=some v):PP v/\zLi a (λu=>u=v) x st:=by
 have key:∀{x:Ext},(∀i,x≠.exit i)->(match zES st.H st.fr a with|some c=>zAJ st.H st.V 8 (zA4 c)|none=>none)=some v->PP v/\zLi a (λu=>u=v) x st:=λ{x} d h=>by
  split at h
  .rename_i c b;refine⟨zXV s 8 (zLc s b) h,?_⟩
   unfold zLi zLh;cases x with
   |exit i=>exact absurd rfl (d i)
   |normal=>simp only[b,h]
   |ret=>simp only[b,h]
  .cases h
 cases x with
 |exit i=>cases h
 |normal=>exact key (λi e=>by cases e) h
 |ret=>exact key (λi e=>by cases e) h
theorem zXW{f:Nat}{x:FFn}(hx:FnX P f x.xf)(c:fcOK x.fc=true)(s:GPP G)(hm:zAr P G)(i:P.follows .mixedOrders=true)(d:TbW P G (tbS tb))(b:∀e∈th,FOK P G e){args:JE}{v:AV}(g:∀a∈args,PP a)(h:zWj U G tb th x args=some v):
  Enters P f/\PP v/\∀H nx,FnT P G f args H nx v H nx:=by
 unfold zWj at h;split at h
 rotate_left
 .cases h
 rename_i l;have t:CPS ⟨qG 0 args,[],[],0,0⟩:=⟨zHX λa A=>(g a A).cp,λp g=>(by cases g),λj B h=>(by cases h),λp g=>(by cases g)⟩
 obtain⟨y,o,m,n⟩:=zBa d b s c t h;have q:=(zO9 m n).1;have z:=zEL d b s (K:=λ_=>zTF x.res) (gs:=[]) (Q:=zLi x.res λu=>u=v) c t h λy o m n=>(zO9 m n).2
 obtain⟨h1,w⟩:=zZ9 hx zGL.symm (by rw[zGM];exact c) s hm i d (zFS b) (zb l) g z
 exact⟨h1,q,w⟩
theorem zPa{n:Nat}:∀{H:Heap},zMH n H=true->∀p∈H,∃str cs,p.2=.cells str cs/\∀c∈cs,zNI n c=true
 |[],h,p,a=>by cases a
 |(k,o)::H,h,p,a=>by
  cases o with
  |cells str cs=>
   simp only[zMH,qr]at h;rcases QG.1 a with rfl|a
   .exact⟨str,cs,rfl,λc hc=>QD.1 h.1 c hc⟩
   .exact zPa h.2 p a
  |_=>cases h
theorem zPb:∀{V:Vecs},zMI V=true->∀j vi,V.get j=some vi->vi.qA=true
 |[],h,j,vi,e=>by cases e
 |(k,o)::r,h,j,vi,e=>by
  simp only[zMI,qr]at h;rw[Vecs.qf]at e;split at e
  .cases e;exact h.1
  .exact zPb h.2 j vi e
theorem zNL{n k m m':Nat}{c:AV}(hc:CP m m' c)(h:zPL n k c=true):OP1 n k c:=by
 unfold zPL at h;split at h
 .rename_i i o;exact .inr (.inr ⟨i,o,rfl,by simpa[Qg]using h⟩)
 .unfold zNI at h;split at h
  .rename_i j _;exact .inr (.inl ⟨j,rfl,by simpa[Qg]using h⟩)
  .exact .inl (zBM 12 hc h)
theorem zU4{n k m m':Nat}{v:AV}(hc:CP m m' v)(h:zWi n k v=true):OPV n k v:=by
 unfold zWi at h;split at h
 .rename_i l;refine .inr ⟨l,rfl,λu a=>?_⟩
  cases hc with
  |qg _ b=>exact zNL (b u a) (QD.1 h u a)
 .exact .inl (zNL hc h)
theorem zLd{b:List XR}{pn:JV}{x:Ext}{v:AV}{H2:Heap}{V2:Vecs}(s:CPS st)(h:zOC b pn x st=some (v,H2,V2)):
  OPV V2.length H2.length v/\CPW H2 V2/\(H2.keys=List.range' 0 H2.length/\pn.length<=H2.length)/\zMH V2.length H2=true/\zMI V2=true/\zJW b pn (λu H' o=>u=v/\H'=H2/\o=V2) x st:=by
 have key:∀{x:Ext},(∀i,x≠.exit i)->zOC b pn x st=some (v,H2,V2)->OPV V2.length H2.length v/\CPW H2 V2/\(H2.keys=List.range' 0 H2.length/\pn.length<=H2.length)/\zMH V2.length H2=true/\zMI V2=true/\zJW b pn (λu H' o=>u=v/\H'=H2/\o=V2) x st:=by
  intro x y h;have E:zOC b pn x st=zOC b pn .ret st:=by cases x with|exit i=>exact absurd rfl (y i)|_=>rfl
  have B:∀R,zJW b pn R x st=zJW b pn R .ret st:=λR=>by cases x with|exit i=>exact absurd rfl (y i)|_=>rfl
  rw[E]at h;rw[B];unfold zOC at h;unfold zJW zLh;simp only at h⊢;split at h
  .rename_i F d;simp only[d];split at h
   .rename_i f;simp only[f];split at h
    .rename_i l;obtain⟨D,H,V,c,z,A,w,g,C,n,m⟩:=zFR s (λv t=>by cases t) h
     split at c
     .rename_i a;simp only[qr]at a;simp only[QK,Prod.mk.injEq]at c;obtain⟨rfl,rfl,rfl⟩:=c;have q:=l;simp only[Bool.or_eq_false_iff]at l;refine⟨.inl<|.inl (zHn 8 (zLc s d) l.1),w,⟨by rw[n,g],by rw[g,List.length_range];exact QA _⟩,a.1,a.2,?_⟩
      simp only[q];exact m _ ⟨trivial,rfl,rfl⟩
     .cases c
    .cases h
   .rename_i f;simp only[f];split at h
    .rename_i j;simp only[j];obtain⟨D,H,V,c,z,A,w,g,C,n,m⟩:=zFR s (λv t=>by rw[QY.1 t];exact zLc s d) h
     split at c
     .rename_i u;split at c
      .rename_i a;simp only[qr]at a;simp only[QK,Prod.mk.injEq]at c;obtain⟨rfl,rfl,rfl⟩:=c;have p:=z u (.head _);refine⟨zU4 p a.1,w,⟨by rw[n,g],by rw[g,QJ,List.length_range];exact Qt _ _⟩,a.2.1,a.2.2,m _ ⟨rfl,rfl,rfl⟩⟩
      .cases c
     .cases c
    .cases h
  .cases h
 cases x with
 |exit i=>cases h
 |normal=>exact key (λi e=>by cases e) h
 |ret=>exact key (λi e=>by cases e) h
theorem zXX{f:Nat}{x:FFn}{grow:JN}{pn:JV}(hx:FnX P f x.xf)(d:fcOK x.fc=true)(n:(fcN pn x.fc&&!inpl grow)=true)(C:GPP G)(hm:zAr P G)(i:P.follows .mixedOrders=true)(g:TbW P G (tbS tb))(b:∀e∈th,FOK P G e){ds:List D}:FOK P G ⟨f,grow,zTG U G tb th x pn,ds⟩:=by
 have start:∀{args:JE}{H:Heap}{V:Vecs}{v:AV}{z:Heap}{o:Vecs},(∀a∈args,CP V.length H.length a)->CPW H V->zTG U G tb th x pn args H V=some (v,z,o)->args.length=x.np/\zGg (qG 0 args) 0 pn=true/\pn.length=H.length/\CPS ⟨qG 0 args,H,V,H.length,V.length⟩/\FT U G tb th x.fc (zPM x.gr x.res pn) ⟨qG 0 args,H,V,H.length,V.length⟩=some (v,z,o):=λhc q h=>by
  unfold zTG at h;split at h
  .rename_i A;simp only[qr]at A;exact⟨zb A.1.1,A.1.2,zb A.2,q.mk' (zHX hc),h⟩
  .cases h
 rw[qr,Bool.not_eq_true']at n;obtain⟨L,I⟩:=n;refine⟨HOK.of I hx.enters λargs H V v z o w N=>?_,λargs H V v z o hc q hk N=>?_⟩
 .obtain⟨hc,q,hk⟩:=w;obtain⟨X,T,M,B,h⟩:=start hc q N;obtain⟨y,t,l,s⟩:=zBa g b C d B h;obtain⟨q1,O,S,q4,q5,_⟩:=zLd (zBh l) s;refine⟨⟨q1,S.1,by rw[←M];exact S.2,λp W=>?_,zPb q5⟩,?_⟩
  .obtain⟨str,Y,e,J⟩:=zPa q4 p W;refine⟨str,Y,e,λc m=>?_⟩
   have h1:=J c m;obtain⟨_,_,R,E⟩:=O.H p W;rw[e]at R;cases R;unfold zNI at h1;split at h1
   .rename_i j;exact .inr ⟨j,rfl,by simpa[Qg]using h1⟩
   .exact .inl (zBM 12 (E c m) h1)
  .have F:=zEL g b C (K:=λ_=>zPM x.gr x.res pn) (gs:=[]) (Q:=zTl x.gr x.res pn (λu H' V'=>u=v/\H'=z/\V'=o)) d B h λy t l s=>(zLd (zBh l) s).2.2.2.2.2
   exact(zY9 hx zGL.symm (by rw[zGM];exact d) C hm i g (zFS b) (by rw[zJO];exact L) X M T F).2
 .obtain⟨X,T,M,B,h⟩:=start hc q N;obtain⟨y,t,l,s⟩:=zBa g b C d B h;obtain⟨q1,O,_⟩:=zLd (zBh l) s;exact λj vi hj=>O.V j vi hj
structure HFun where
 f:Nat
 grow:JN
 pn:JV
 x:FFn
 ds:List D
structure Grp where
 vs:List (Nat×FFn)
 hs:List HFun
abbrev RV:=Nat->JE->JF
abbrev RH:=Nat->JE->Heap->Vecs->Option (AV×Heap×Vecs)
def tbV(g:List (Nat×FFn))(r:RV)(tb:TbF):TbF:=match g with
 |[]=>tb
 |p::g=>(p.1,r p.1)::tbV g r tb
def tbO(g:List HFun)(r:RH)(th:TbH):TbH:=match g with
 |[]=>th
 |p::g=>⟨p.f,p.grow,r p.f,p.ds⟩::tbO g r th
def zPN(U:Nat)(G:Cx)(tb:TbF)(th:TbH):List (Nat×FFn)->RV
 |[],_=>λ_=>none
 |p::g,f=>match Nat.beq f p.1 with
  |true=>zWj U G tb th p.2
  |false=>zPN U G tb th g f
def zPO(U:Nat)(G:Cx)(tb:TbF)(th:TbH):List HFun->RH
 |[],_=>λ_ _ _=>none
 |p::g,f=>match Nat.beq f p.f with
  |true=>zTG U G tb th p.x p.pn
  |false=>zPO U G tb th g f
def recG(U:Nat)(G:Cx)(tb:TbF)(th:TbH)(g:Grp):Nat->RV×RH
 |0=>(λ_ _=>none,λ_ _ _ _=>none)
 |n+1=>(zPN U G (tbV g.vs (recG U G tb th g n).1 tb) (tbO g.hs (recG U G tb th g n).2 th) g.vs,zPO U G (tbV g.vs (recG U G tb th g n).1 tb) (tbO g.hs (recG U G tb th g n).2 th) g.hs)
def gv(U:Nat)(G:Cx)(tb:TbF)(th:TbH)(g:Grp)(n f:Nat):JE->JF:=(recG U G tb th g n).1 f
def go(U:Nat)(G:Cx)(tb:TbF)(th:TbH)(g:Grp)(n f:Nat):JE->Heap->Vecs->Option (AV×Heap×Vecs):=(recG U G tb th g n).2 f
structure GrpOK(P:Program)(g:Grp):Prop where
 vs:∀p∈g.vs,FnX P p.1 p.2.xf/\fcOK p.2.fc=true
 hs:∀p∈g.hs,FnX P p.f p.x.xf/\fcOK p.x.fc=true/\(fcN p.pn p.x.fc&&!inpl p.grow)=true
theorem zXY{g:Grp}(m:GrpOK P g)(D:GPP G)(hm:zAr P G)(i:P.follows .mixedOrders=true)(C:TbW P G (tbS tb))(x:∀e∈th,FOK P G e):∀n,TbW P G (tbS (tbV g.vs (recG U G tb th g n).1 tb))/\∀e∈tbO g.hs (recG U G tb th g n).2 th,FOK P G e:=by
 have mk:∀{r:RV×RH},(∀p∈g.vs,∀args v,(∀a∈args,PP a)->r.1 p.1 args=some v->Enters P p.1/\PP v/\∀H o,FnT P G p.1 args H o v H o)->(∀p∈g.hs,FOK P G ⟨p.f,p.grow,r.2 p.f,p.ds⟩)->TbW P G (tbS (tbV g.vs r.1 tb))/\∀e∈tbO g.hs r.2 th,FOK P G e:=by
  intro r h1 E
  constructor
  .have:∀(l:List (Nat×FFn)),(∀p∈l,p∈g.vs)->TbW P G (tbS (tbV l r.1 tb)):=by
    intro l
    induction l with
    |nil=>intro _;exact C
    |cons p l t=>
     intro d s u;simp only[tbV,tbS,Qa,QG]at u;rcases u with rfl|u
     .exact λargs v b F=>h1 p (d p (.head _)) args v b F
     .exact t (λq c=>d q (.tail _ c)) s u
   exact this g.vs λp b=>b
  .have:∀(l:List HFun),(∀p∈l,p∈g.hs)->∀e∈tbO l r.2 th,FOK P G e:=by
    intro l
    induction l with
    |nil=>intro _;exact x
    |cons p l t=>
     intro d e w;simp only[tbO,QG]at w;rcases w with rfl|w
     .exact E p (d p (.head _))
     .exact t (λq c=>d q (.tail _ c)) e w
   exact this g.hs λp b=>b
 intro n
 induction n with
 |zero=>
  refine mk (λp b args v _ h=>by cases h) λp b=>⟨⟨(m.hs p b).1.enters,λargs H V v A z _ h=>(by cases h)⟩,λargs H V v A z _ _ _ h=>(by cases h)⟩
 |succ n t=>
  obtain⟨i1,i2⟩:=t;refine mk (λp b args v y h=>?_) λp b=>?_
  .have:∀(l:List (Nat×FFn)),(∀q∈l,q∈g.vs)->zPN U G (tbV g.vs (recG U G tb th g n).1 tb) (tbO g.hs (recG U G tb th g n).2 th) l p.1 args=some v->Enters P p.1/\PP v/\∀H o,FnT P G p.1 args H o v H o:=by
    intro l
    induction l with
    |nil=>intro _ h;cases h
    |cons q l j=>
     intro d h;rw[zPN]at h;cases e:Nat.beq p.1 q.1 with
     |true=>
      rw[e]at h;have e:=zb e;obtain⟨B,a2⟩:=m.vs q (d q (.head _));rw[e];exact zXW B a2 D hm i i1 i2 y h
     |false=>
      rw[e]at h;exact j (λq c=>d q (.tail _ c)) h
   exact this g.vs (λq c=>c) h
  .have:∀(l:List HFun),(∀q∈l,q∈g.hs)->FOK P G ⟨p.f,p.grow,zPO U G (tbV g.vs (recG U G tb th g n).1 tb) (tbO g.hs (recG U G tb th g n).2 th) l p.f,p.ds⟩:=by
    intro l
    induction l with
    |nil=>intro _;exact⟨⟨(m.hs p b).1.enters,λargs H V v A z _ h=>(by cases h)⟩,λargs H V v A z _ _ _ h=>(by cases h)⟩
    |cons q l j=>
     intro d;rw[zPO];cases e:Nat.beq p.f q.f with
     |true=>
      have e:=zb e;obtain⟨B,a2,a3⟩:=m.hs q (d q (.head _));rw[e];have a4:=(m.hs p b).2.2;rw[qr]at a3 a4;exact zXX B a2 (by rw[qr];exact⟨a3.1,a4.2⟩) D hm i i1 i2
     |false=>exact j λq c=>d q (.tail _ c)
   exact this g.hs λq c=>c
def zTH(U:Nat)(G:Cx)(tb:TbF)(th:TbH)(g:Grp)(n:Nat):TbF:=tbV g.vs (gv U G tb th g n) tb
def zTI(U:Nat)(G:Cx)(tb:TbF)(th:TbH)(g:Grp)(n:Nat):TbH:=tbO g.hs (go U G tb th g n) th
structure TabOK(P:Program)(G:Cx)(tb:TbF)(th:TbH):Prop where
 v:TbW P G (tbS tb)
 o:∀e∈th,FOK P G e
theorem TabOK.nil:TabOK P G [] []:=⟨λs a=>(by cases a),λe b=>(by cases b)⟩
def zCd(P:Program)(G:Cx)(f:Nat)(g:JE->JF):Prop:=∀args v,(∀a∈args,PP a)->g args=some v->Enters P f/\PP v/\∀H b,FnT P G f args H b v H b
theorem TabOK.ext(h:TabOK P G tb th){f:Nat}{g:JE->JF}(b:zCd P G f g):TabOK P G ((f,g)::tb) th:=⟨λs a=>by
 simp only[tbS,Qa,QG]at a;rcases a with rfl|a
 .exact b
 .exact h.v s a,h.o⟩
theorem TabOK.v7(h:TabOK P G tb th){e:FEnt}(b:FOK P G e):TabOK P G tb (e::th):=⟨h.v,λx a=>by
 rcases QG.1 a with rfl|a
 .exact b
 .exact h.o x a⟩
theorem GrpOK.nil:GrpOK P ⟨[],[]⟩:=⟨λp a=>(by cases a),λp a=>(by cases a)⟩
theorem GrpOK.wR{f:Nat}{x:FFn}{vs:List (Nat×FFn)}{b:List HFun}(h1:FnX P f x.xf)(c:fcOK x.fc=true)(h:GrpOK P ⟨vs,b⟩):GrpOK P ⟨(f,x)::vs,b⟩:=⟨λp a=>by
 rcases QG.1 a with rfl|a
 .exact⟨h1,c⟩
 .exact h.vs p a,h.hs⟩
theorem GrpOK.wY{x:HFun}{vs:List (Nat×FFn)}{b:List HFun}(h1:FnX P x.f x.x.xf)(c:fcOK x.x.fc=true)(d:(fcN x.pn x.x.fc&&!inpl x.grow)=true)(h:GrpOK P ⟨vs,b⟩):GrpOK P ⟨vs,x::b⟩:=⟨h.vs,λp a=>by
 rcases QG.1 a with rfl|a
 .exact⟨h1,c,d⟩
 .exact h.hs p a⟩
theorem TabOK.add(h:TabOK P G tb th){g:Grp}(d:GrpOK P g)(e:GPP G)(hm:zAr P G)(c:P.follows .mixedOrders=true)(n:Nat):TabOK P G (zTH U G tb th g n) (zTI U G tb th g n):=
 let ⟨a,b⟩:=zXY d e hm c h.v h.o n
 ⟨a,b⟩
end
inductive LA where
 |u (k:Nat)
 |c (id:Nat) (c:Cut)
 |q
 |d (pn:JV)
structure An where
 ka:List (Nat×List K)
 ha:List (Nat×List D)
 cv:Option (List D)
 sj:List (Nat×Nat×Cut)
 lp:List LA
def lkA{α:Type}:List (Nat×α)->Nat->Option α
 |[],_=>none
 |p::r,n=>match Nat.beq n p.1 with
  |true=>some p.2
  |false=>lkA r n
def zWk(A:An)(o:XOper):FOp:=⟨o,match o.dst with
 |some d=>match lkA A.ka d with
  |some k=>k
  |none=>[]
 |none=>match o.op with
  |.store (.t a) _ _=>match lkA A.ka (10000+a)with
   |some k=>k
   |none=>[]
  |_=>[],match o.op with
 |.call f _=>match o.dst with
  |some d=>match lkA A.ha (7000000+d)with
   |some k=>some k
   |none=>lkA A.ha f
  |none=>lkA A.ha f
 |.qN _ _=>match o.dst with
  |some d=>match lkA A.ha (5000000+d)with
   |some k=>some k
   |none=>A.cv
  |none=>A.cv
 |.wg _ _ _=>lkA A.ha 1000000
 |.wH _|.box _ _=>match o.dst with
  |some d=>lkA A.ha (2000000+d)
  |none=>none
 |_=>none⟩
def zWl{α:Type}:List α->Nat->Option α
 |[],_=>none
 |a::_,0=>some a
 |_::r,n+1=>zWl r n
def an(A:An):XC->Nat->Nat->FC×Nat×Nat
 |.skip,s,l=>(.skip,s,l)
 |.ret,s,l=>(.ret,s,l)
 |.exit i,s,l=>(.exit i,s,l)
 |.wA e,s,l=>(.wA (e.map (zWk A)),s,l)
 |.draw e m,s,l=>(match zWl A.lp l with
  |some (.d n)=>.draw n (e.map (zWk A)) m
  |_=>.qS (e.map (zWk A)) m,s,l+1)
 |.seq a b,s,l=>match an A a (s+1) l with
  |(a,f,g)=>match an A b f g with
   |(b,h,j)=>(match lkA A.sj s with
    |some (id,c)=>.wi id c a b
    |none=>.seq a b,h,j)
 |.cond c a b,s,l=>match an A a s l with
  |(a,f,g)=>match an A b f g with
   |(b,h,j)=>(.cond c a b,h,j)
 |.block i b,s,l=>match an A b s l with
  |(b,f,g)=>(.block i b,f,g)
 |.loop b,s,l=>match an A b s (l+1)with
  |(b,f,g)=>(match zWl A.lp l with
   |some (.u k)=>.qE k b
   |some (.c id c)=>.loop id c b
   |_=>.skip,f,g)
 |.wN ..,s,l=>(.skip,s,l)
def mkX(P:Program)(fn:Func)(A:An):FFn:=match compF P fn with
 |some a=>⟨a.np,a.nt,(an A a.body 0 0).1,a.res,[]⟩
 |none=>⟨0,0,.skip,[],[]⟩
def zan(P:Program)(fn:Func)(gr:JN)(A:An):FFn:=match compF P fn with
 |some a=>⟨a.np,a.nt,(an A a.body 0 0).1,a.res,gr⟩
 |none=>⟨0,0,.skip,[],[]⟩
structure Tb(P:Program)(G:Cx) where
 T:Nat->TbF
 O:Nat->TbH
 T0:Nat->TbF
 O0:Nat->TbH
 g:Grp
 ok:∀U,TabOK P G (T U) (O U)
variable{P:Program}{G:Cx}
def Tb.nil:Tb P G:=⟨λ_=>[],λ_=>[],λ_=>[],λ_=>[],⟨[],[]⟩,λ_=>TabOK.nil⟩
def Tb.add(t:Tb P G)(r:Bool)(g:Grp)(b:GrpOK P g)(c:GPP G)(hm:zAr P G)(a:P.follows .mixedOrders=true):Tb P G:=
 ⟨λU=>zTH U G (t.T U) (t.O U) g (match r with|true=>U|false=>1),λU=>zTI U G (t.T U) (t.O U) g (match r with|true=>U|false=>1),t.T,t.O,g,λU=>(t.ok U).add b c hm a _⟩
def Tb.ext(t:Tb P G){f:Nat}{g:JE->JF}(a:zCd P G f g):Tb P G:=
 ⟨λU=>(f,g)::t.T U,t.O,t.T,t.O,⟨[],[]⟩,λU=>(t.ok U).ext a⟩
def Tb.v7(t:Tb P G){e:FEnt}(a:FOK P G e):Tb P G:=
 ⟨t.T,λU=>e::t.O U,t.T,t.O,⟨[],[]⟩,λU=>(t.ok U).v7 a⟩
noncomputable def gV(t:Tb P G)(n f:Nat):JE->JF:=gv zg G (t.T0 zg) (t.O0 zg) t.g n f
noncomputable def gO(t:Tb P G)(n f:Nat):JE->Heap->Vecs->Option (AV×Heap×Vecs):=go zg G (t.T0 zg) (t.O0 zg) t.g n f
noncomputable def fV(t:Tb P G)(d id:Nat)(x:FFn):JV->JE->Heap->Vecs->JF:=zH6 zg G (zTH zg G (t.T0 zg) (t.O0 zg) t.g d) (zTI zg G (t.T0 zg) (t.O0 zg) t.g d) id x.fc (zTF x.res)
noncomputable def fO(t:Tb P G)(d id:Nat)(x:FFn)(pn:JV):JV->JE->Heap->Vecs->Option (AV×Heap×Vecs):=zH6 zg G (zTH zg G (t.T0 zg) (t.O0 zg) t.g d) (zTI zg G (t.T0 zg) (t.O0 zg) t.g d) id x.fc (zPM x.gr x.res pn)
end Go.Sy
namespace Go.Sy
def Wp{β:Type}(o:Option β)(P:β->Prop):Prop:=∃x,o=some x/\P x
section
variable{α β:Type}{P Q:β->Prop}
theorem Wp.mk{x:β}(h:P x):Wp (Option.some x) P:=⟨x,rfl,h⟩
theorem zXZ{x:β}:Wp (Option.some x) P↔P x:=⟨λ⟨_,e,h⟩=>by cases e;exact h,λh=>⟨x,rfl,h⟩⟩
theorem zSO:Wp (none:Option β) P↔False:=⟨λ⟨_,e,_⟩=>(by cases e),False.elim⟩
theorem zWD{b:Bool}{x y:Option β}:Wp (br b x y) P↔(b=true->Wp x P)/\(b=false->Wp y P):=by cases b<;>simp[br]
theorem zab{b:Bool}{x:Option β}:Wp (gd b x) P↔b=true/\Wp x P:=by cases b<;>simp[gd,zSO]
theorem zac{o:Option α}{f:α->Option β}:Wp (bd o f) P↔Wp o λa=>Wp (f a) P:=by
 cases o with
 |none=>simp[bd,zSO]
 |some a=>simp[bd,zXZ]
theorem Wp.mono{o:Option β}(h:Wp o P)(k:∀x,P x->Q x):Wp o Q:=let ⟨x,e,q⟩:=h;⟨x,e,k x q⟩
theorem Wp.if{b:Bool}{x y:Option β}(h1:b=true->Wp x P)(a:b=false->Wp y P):Wp (br b x y) P:=zWD.2 ⟨h1,a⟩
theorem Wp.ite{p:Prop}[Decidable p]{x y:Option β}(h1:p->Wp x P)(a:¬p->Wp y P):Wp (br (decide p) x y) P:=zWD.2 ⟨λh=>h1 (Qc h),λh=>a (Qz h)⟩
theorem Wp.gd{p:Prop}[Decidable p]{x:Option β}(h1:p)(a:Wp x P):Wp (gd (decide p) x) P:=zab.2 ⟨Qq h1,a⟩
theorem Wp.bd{o:Option α}{R:α->Prop}{f:α->Option β}(h:Wp o R)(k:∀a,R a->Wp (f a) P):Wp (bd o f) P:=zac.2 (h.mono k)
end
section
variable{β:Type}{P:β->Prop}{wk:Bool}
end
theorem zCw{n:Int}(h1:-9223372036854775808<=n)(a:n<=9223372036854775807):wrapx .i64 n=n:=by
 cases n with
 |ofNat m=>
  have:Nat.ble m 9223372036854775807=true:=by rw[Qo];rw[QB]at a;omega
  simp only[wrapx,this,cond]
 |negSucc m=>
  have:Nat.ble m 9223372036854775807=true:=by rw[Qo];omega
  simp only[wrapx,this,cond]
theorem zq{i:Nat}(h:i<9223372036854775807):wrapx .i64 (Int.ofNat i+1)=Int.ofNat (i+1):=zCw (by rw[QB];omega) (by rw[QB];omega)
theorem zX0{α:Type}{l:List α}{i:Nat}:ixN l (Int.ofNat i)=l[i]?:=rfl
section
variable{β:Type}{P:β->Prop}{wk:Bool}
theorem Wp.lt{i l:Nat}{x y:Option β}(h1:i<l->Wp x P)(b:l<=i->Wp y P):Wp (br (decide (Int.ofNat i<Int.ofNat l)) x y) P:=
 Wp.ite (λh=>h1 (Int.ofNat_lt.1 h)) λh=>b (Nat.le_of_not_lt λa=>h (Int.ofNat_lt.2 a))
theorem zSP{α:Type}{l:List α}{av:α->AV}{i:Nat}(h:i<l.length):ixN (l.map av) (Int.ofNat i)=some (av l[i]):=by
 show(l.map av)[i]? = _
 rw[Qb,QE h];rfl
theorem zDW{α:Type}{l:List α}{i:Nat}(h:i<l.length):ixN l (Int.ofNat i)=some l[i]:=QE h
theorem zRl{s:JV}{i:Nat}(h:i<s.length):ldE (s.map λb=>AV.int .u8 (.ofNat b)) (Int.toNat (Int.ofNat i)) 0 1 false=some (.int .u8 (.ofNat s[i])):=by
 show(match(s.map λb=>AV.int .u8 (.ofNat b))[i]? with|some e=>part e.cells 0 1 false|none=>none)=_
 rw[Qb,QE h];rfl
theorem zIC{i l:Nat}{x:Option β}(h:i<l)(hx:Wp x P):Wp (Go.Sy.gd (decide (0<=Int.ofNat i/\Int.ofNat i<Int.ofNat l)) x) P:=
 Wp.gd ⟨Qf _,Int.ofNat_lt.2 h⟩ hx
end
theorem zT{n:Nat}(h:n<=9223372036854775807):n<zg:=by rw[zHo];omega
theorem zCU{i:Nat}(a:0<i)(h:i<=9223372036854775807):wrapx .i64 (Int.ofNat i-1)=Int.ofNat (i-1):=by
 rw[zCw (by rw[QB];omega) (by rw[QB];omega),QB,QB];omega
end Go.Sy
