/- A LIBRARY: WHAT A FUNCTION'S CODE RECKONS, AS A LEAN FUNCTION, AND THAT ITS WORD IS THE MODEL'S: part 5 of 6. No condition. -/
import Derived.Test.YtjfcepbllmdfcaaGreatDoorFxD
set_option linter.unusedVariables false
set_option linter.unusedSimpArgs false
namespace Go.Sy
theorem zWM{β:Type}{b:Bool}{x:Option β}{r:β}(h:gd b x=some r):b=true/\x=some r:=by
 cases b
 .cases h
 .exact⟨rfl,h⟩
theorem zCK{β:Type}{p:Prop}[Decidable p]{x:Option β}{r:β}(h:gd (decide p) x=some r):p/\x=some r:=
 let ⟨a,b⟩:=zWM h;⟨Qm a,b⟩
theorem zM0{β:Type}{b:Bool}{x y:Option β}{r:β}(h:br b x y=some r):(b=true/\x=some r)\/(b=false/\y=some r):=by
 cases b
 .exact .inr ⟨rfl,h⟩
 .exact .inl ⟨rfl,h⟩
theorem zKM{α β:Type}{o:Option α}{f:α->Option β}{r:β}(h:bd o f=some r):∃a,o=some a/\f a=some r:=by
 cases o with
 |none=>cases h
 |some a=>exact⟨a,rfl,h⟩
theorem zK5{β:Type}{t:Nat}{c:Bool}{st:Sta}{k:Bool->Sta->Option β}{r:β}(h:brF t c st k=some r):k c ⟨st.fr.put t (.bool c),st.H,st.V,st.m,st.mv⟩=some r:=by
 rcases zM0 h with⟨rfl,h⟩|⟨rfl,h⟩<;>exact h
def WKs(vs a:JE):Prop:=vs.length=a.length/\∀(i:Nat) v u,vs[i]?=some v->a[i]?=some u->WK v u
theorem WKs.ud{vs:JE}:WKs vs vs:=⟨rfl,λi v u h a=>by rw[h]at a;cases a;exact .refl _⟩
theorem WKs.nil{c:JE}(h:WKs [] c):c=[]:=by
 cases c with
 |nil=>rfl
 |cons a b=>exact absurd h.1 (by simp)
theorem WKs.cons{v u:AV}{vs d:JE}(h:WK v u)(e:WKs vs d):WKs (v::vs) (u::d):=⟨by simp[e.1],λi a b c hb=>by
 cases i with
 |zero=>simp at c hb;subst c;subst hb;exact h
 |succ i=>exact e.2 i a b (by simpa using c) (by simpa using hb)⟩
theorem WKs.vz{v:AV}{vs c:JE}(h:WKs (v::vs) c):∃u d,c=u::d/\WK v u/\WKs vs d:=by
 cases c with
 |nil=>exact absurd h.1 (by simp)
 |cons u c=>exact⟨u,c,rfl,h.2 0 v u rfl rfl,by simpa using h.1,λi a b e hb=>h.2 (i+1) a b (by simpa using e) (by simpa using hb)⟩
theorem WKs.split{a b d:JE}(h:WKs (a++b) d):WKs a (d.take a.length)/\WKs b (d.drop a.length):=by
 obtain⟨h1,h2⟩:=h;rw[QE]at h1;refine⟨⟨by rw[Qj];omega,λi v u c hu=>?_⟩,⟨by rw[Qn];omega,λi v u c hu=>?_⟩⟩
 .have hi:=(QC.1 c).1;rw[List.getElem?_take,if_pos hi]at hu;exact h2 i v u (by rw[Qy hi];exact c) hu
 .rw[List.getElem?_drop]at hu;exact h2 (a.length+i) v u (by rw[List.getElem?_append_right (by omega)];simpa using c) hu
theorem zTV:∀{a b:List (AV×AV)},zQB a=zQB b->a=b
 |[],[],_=>rfl
 |[],(k,v)::b,h=>by cases h
 |(k,v)::a,[],h=>by cases h
 |(k,v)::a,(d,c)::b,h=>by
  simp only[zQB,List.cons.injEq]at h;obtain⟨rfl,rfl,h⟩:=h;rw[zTV h]
theorem zAP{β:Type}{r:β}:∀{ds:List D}{wk:Bool}{F:JE->Heap->Vecs->Option β}{vs:JE}{H:Heap}{V:Vecs},din wk ds (zFv ds F) vs H V=some r->∃a,WKs vs a/\(wk=false->a=vs)/\F a H V=some r
 |[],wk,F,vs,H,V,h=>by
  cases vs with
  |nil=>
   cases H with
   |nil=>
    cases V with
    |nil=>exact⟨[],.ud,λ_=>rfl,h⟩
    |cons=>cases h
   |cons=>cases h
  |cons=>cases h
 |.v .b::ds,wk,F,vs,H,V,h=>by
  cases vs with
  |nil=>cases h
  |cons v vs=>
   cases v<;>first|(cases h;done)|skip
   obtain⟨a,h1,h2,h3⟩:=zAP (ds:=ds) h;exact⟨_,.cons (.refl _) h1,λe=>by rw[h2 e],h3⟩
 |.v (.i k)::ds,wk,F,vs,H,V,h=>by
  cases vs with
  |nil=>cases h
  |cons v vs=>
   cases v<;>first|(cases h;done)|skip
   rename_i C n;simp only[din]at h;split at h
   .rename_i e;have:=zHz e;subst this;obtain⟨a,h1,h2,h3⟩:=zAP (ds:=ds) h;exact⟨_,.cons (.refl _) h1,λe=>by rw[h2 e],h3⟩
   .cases h
 |.v .s::ds,wk,F,vs,H,V,h=>by
  cases vs with
  |nil=>cases h
  |cons v vs=>
   cases v<;>first|(cases h;done)|skip
   obtain⟨a,h1,h2,h3⟩:=zAP (ds:=ds) h;exact⟨_,.cons (.refl _) h1,λe=>by rw[h2 e],h3⟩
 |.v (.l x)::ds,wk,F,vs,H,V,h=>by
  cases vs with
  |nil=>cases h
  |cons v vs=>
   cases v<;>first|(cases h;done)|skip
   .simp only[din]at h;split at h
    .obtain⟨a,h1,h2,h3⟩:=zAP (ds:=ds) h;exact⟨_,.cons (.nil _) h1,λe=>by simp_all,h3⟩
    .cases h
   .simp only[din]at h;split at h
    .rename_i e;have:=zb e;subst this;obtain⟨a,h1,h2,h3⟩:=zAP (ds:=ds) h;exact⟨_,.cons (.refl _) h1,λe=>by rw[h2 e],h3⟩
    .cases h
 |.v .av::ds,wk,F,vs,H,V,h=>by
  cases vs with
  |nil=>cases h
  |cons v vs=>
   obtain⟨a,h1,h2,h3⟩:=zAP (ds:=ds) h;exact⟨_,.cons (.refl _) h1,λe=>by rw[h2 e],h3⟩
 |.v (.c u)::ds,wk,F,vs,H,V,h=>by
  cases vs with
  |nil=>cases h
  |cons v vs=>
   simp only[din]at h;split at h
   .rename_i e;have:=zTH 20 _ _ e;subst this;obtain⟨a,h1,h2,h3⟩:=zAP (ds:=ds) h;exact⟨_,.cons (.refl _) h1,λe=>by rw[h2 e],h3⟩
   .cases h
 |.v (.agg n)::ds,wk,F,vs,H,V,h=>by
  cases vs with
  |nil=>cases h
  |cons v vs=>
   cases v<;>first|(cases h;done)|skip
   rename_i y;simp only[din]at h;split at h
   .rename_i e;have:=zb e;subst this;obtain⟨a,h1,h2,h3⟩:=zAP (ds:=ds) h;obtain⟨s1,s2⟩:=h1.split;exact⟨_,.cons (.agg s1.1 s1.2) s2,λe=>by rw[h2 e];simp,h3⟩
   .cases h
 |.v (.qd n)::ds,wk,F,vs,H,V,h=>by
  cases vs with
  |nil=>cases h
  |cons v vs=>
   cases v<;>first|(cases h;done)|skip
   rename_i y;simp only[din]at h;split at h
   .rename_i e;have:=zb e;subst this;obtain⟨a,h1,h2,h3⟩:=zAP (ds:=ds) h;obtain⟨s1,s2⟩:=h1.split;exact⟨_,.cons (.qd s1.1 s1.2) s2,λe=>by rw[h2 e];simp,h3⟩
   .cases h
 |.v (.ep off)::ds,wk,F,vs,H,V,h=>by
  cases vs with
  |nil=>cases h
  |cons v vs=>
   cases v<;>first|(cases h;done)|skip
   simp only[din]at h;split at h
   .rename_i e;have:=zb e;subst this;obtain⟨a,h1,h2,h3⟩:=zAP (ds:=ds) h;obtain⟨u,q,rfl,g,w⟩:=h1.vz;exact⟨_,.cons (.qc _ g) w,λe=>by have:=h2 e;simp_all,h3⟩
   .cases h
 |.v (.jc t)::ds,wk,F,vs,H,V,h=>by
  cases vs with
  |nil=>cases h
  |cons v vs=>
   cases v<;>first|(cases h;done)|skip
   simp only[din]at h;split at h
   .rename_i e;have:=zb e;subst this;obtain⟨a,h1,h2,h3⟩:=zAP (ds:=ds) h;obtain⟨u,q,rfl,g,w⟩:=h1.vz;exact⟨_,.cons (.iface _ g) w,λe=>by have:=h2 e;simp_all,h3⟩
   .cases h
 |.hc E str n::ds,wk,F,vs,H,V,h=>by
  cases vs with
  |cons=>cases h
  |nil=>
   cases H with
   |nil=>cases h
   |cons p H=>
    obtain⟨B,o⟩:=p;cases o<;>first|(cases h;done)|skip
    simp only[din]at h;split at h
    .rename_i e;simp only[QA,beq_iff_eq]at e;obtain⟨⟨f,d⟩,A⟩:=e;have:=zb f;subst this;subst d;obtain⟨a,h1,h2,h3⟩:=zAP (ds:=ds) h;rw[h2 rfl]at h3;exact⟨[],.ud,λ_=>rfl,h3⟩
    .cases h
 |.vec j x::ds,wk,F,vs,H,V,h=>by
  cases vs with
  |cons=>cases h
  |nil=>
   cases V with
   |nil=>cases h
   |cons p V=>
    obtain⟨m,o⟩:=p;cases o<;>first|(cases h;done)|skip
    simp only[din]at h;split at h
    .rename_i e;simp only[QA]at e;obtain⟨f,d⟩:=e;have:=zb f;subst this;have:=zb d;subst this;obtain⟨a,h1,h2,h3⟩:=zAP (ds:=ds) h;rw[h2 rfl]at h3;exact⟨[],.ud,λ_=>rfl,h3⟩
    .cases h
 |.mp j::ds,wk,F,vs,H,V,h=>by
  cases vs with
  |cons=>cases h
  |nil=>
   cases V with
   |nil=>cases h
   |cons p V=>
    obtain⟨m,o⟩:=p;cases o<;>first|(cases h;done)|skip
    simp only[din]at h;split at h
    .rename_i e;have:=zb e;subst this;obtain⟨a,h1,h2,h3⟩:=zAP (ds:=ds) h;rw[h2 rfl]at h3;exact⟨[],.ud,λ_=>rfl,h3⟩
    .cases h
 |.uT j z::ds,wk,F,vs,H,V,h=>by
  cases vs with
  |cons=>cases h
  |nil=>
   cases V with
   |nil=>cases h
   |cons p V=>
    obtain⟨m,o⟩:=p;cases o<;>first|(cases h;done)|skip
    simp only[din]at h;split at h
    .rename_i e;rw[QA]at e;have:=zb e.1;subst this;have:=zTV (AV.agg.inj (zTH 20 _ _ e.2));subst this;obtain⟨a,h1,h2,h3⟩:=zAP (ds:=ds) h;rw[h2 rfl]at h3;exact⟨[],.ud,λ_=>rfl,h3⟩
    .cases h
 |.vn j x n::ds,wk,F,vs,H,V,h=>by
  cases vs with
  |cons=>cases h
  |nil=>
   cases V with
   |nil=>cases h
   |cons p V=>
    obtain⟨m,o⟩:=p;cases o<;>first|(cases h;done)|skip
    simp only[din]at h;split at h
    .rename_i e;simp only[QA]at e;obtain⟨f,d,A⟩:=e;have:=zb f;subst this;have:=zb d;subst this;obtain⟨a,h1,h2,h3⟩:=zAP (ds:=ds) h;rw[h2 rfl]at h3;exact⟨[],.ud,λ_=>rfl,h3⟩
    .cases h
theorem zVm{β:Type}{e:Bool}{d:List Kd}{a:AV}{r:β}:∀{es:List (AV×AV)}{k:JF->Option β},lkB e d a es k=some r->∃o,zAE e d a es=some o/\k o=some r
 |[],k,h=>⟨none,rfl,h⟩
 |(j,v)::es,k,h=>by
  simp only[lkB]at h;split at h
  .rename_i b hb;cases b with
   |true=>exact⟨some v,by simp only[zAE,hb],h⟩
   |false=>
    obtain⟨o,h1,h2⟩:=zVm (es:=es) (k:=k) h;exact⟨o,by simp only[zAE,hb];exact h1,h2⟩
  .cases h
theorem zM1{β:Type}{wk:Bool}{a:List K}{o:JF}{k:AV->Option β}{r:β}(h:dK wk a o (dko a k)=some r):∃v u,o=some v/\WK v u/\(wk=false->u=v)/\k u=some r:=by
 cases o with
 |none=>cases h
 |some v=>
  obtain⟨f,h1,h2,h3⟩:=zAP h;obtain⟨u,c,rfl,b,d⟩:=h1.vz;have:=d.nil;subst this;exact⟨v,u,rfl,b,λe=>by have:=h2 e;simp_all,h3⟩
theorem zcx{β:Type}{wk:Bool}{ds:List D}{o:Option (AV×Heap×Vecs)}{k:AV->Heap->Vecs->Option β}{r:β}(h:dD wk ds o (ddo ds k)=some r):∃v u H V,o=some (v,H,V)/\WK v u/\(wk=false->u=v)/\k u H V=some r:=by
 cases o with
 |none=>cases h
 |some p=>
  obtain⟨v,H,V⟩:=p;obtain⟨d,h1,h2,h3⟩:=zAP h;obtain⟨u,b,rfl,a,c⟩:=h1.vz;have:=c.nil;subst this;exact⟨v,u,H,V,rfl,a,λe=>by have:=h2 e;simp_all,h3⟩
def VIP:VI->Prop
 |.vec _ a=>∀e∈a,PP e
 |.mp a=>∀p∈a,PP p.1/\PP p.2
 |.qX _ _ _=>True
structure CPS(st:Sta):Prop where
 fr:zDj st.mv st.m st.fr
 H:HCP st.mv st.m st.H
 V:∀j vi,st.V.get j=some vi->j<st.mv/\VIP vi
 lt:∀p∈st.H,p.1<st.m
theorem CPS.vd{st:Sta}(s:CPS st){vi:VI}(h:VIP vi):CPS ⟨st.fr,st.H,(st.mv,vi)::st.V,st.m,st.mv+1⟩:=
 ⟨s.fr.mono (QV _) (QB _),s.H.mono (QV _) (QB _),λj v a=>by
  rw[Vecs.qi]at a;split at a
  .rename_i e;cases a;exact⟨by show j<st.mv+1;omega,h⟩
  .have:=s.V j v a;exact⟨Nat.lt_succ_of_lt this.1,this.2⟩,s.lt⟩
theorem CPS.u3{st:Sta}(s:CPS st){j:Nat}{vi:VI}(b:j<st.mv)(h:VIP vi):CPS ⟨st.fr,st.H,(j,vi)::st.V.del j,st.m,st.mv⟩:=
 ⟨s.fr,s.H,λi v a=>by
  rw[Vecs.qi]at a;split at a
  .rename_i e;subst e;cases a;exact⟨b,h⟩
  .rw[Vecs.qR]at a;split at a
   .cases a
   .exact s.V i v a,s.lt⟩
theorem CPS.jf{st:Sta}(s:CPS st){j:Nat}{vi:VI}(h:VIP vi):CPS ⟨st.fr,st.H,(st.mv,vi)::st.V.del j,st.m,st.mv+1⟩:=
 ⟨s.fr.mono (QV _) (QB _),s.H.mono (QV _) (QB _),λi v a=>by
  rw[Vecs.qi]at a;split at a
  .rename_i e;cases a;exact⟨by show i<st.mv+1;omega,h⟩
  .rw[Vecs.qR]at a;split at a
   .cases a
   .have:=s.V i v a;exact⟨Nat.lt_succ_of_lt this.1,this.2⟩,s.lt⟩
theorem CPS.put{st:Sta}(s:CPS st){n:Nat}{v:AV}(h:CP st.mv st.m v):CPS ⟨st.fr.put n v,st.H,st.V,st.m,st.mv⟩:=
 ⟨λt u e=>by
  rw[Fr.qu]at e;split at e
  .cases e;exact h
  .exact s.fr t u e,s.H,s.V,s.lt⟩
theorem CPS.qv{st:Sta}(s:CPS st){d:Option Nat}{v:AV}(h:CP st.mv st.m v):CPS (st.put d v):=by
 cases d with
 |none=>exact s
 |some n=>exact s.put h
def tbS(tb:TbF):TblS:=tb.map λs=>(s.1,(λargs=>∀x∈args,PP x),s.2)
theorem zVn{tb:TbF}{f:Nat}{g:JE->JF}{args:JE}{v:AV}{k:AV->Prop}(a:zQn tb f=some g)(h:g args=some v)(b:∀x∈args,PP x)(c:k v):zGg (tbS tb) f args k:=by
 induction tb with
 |nil=>cases a
 |cons s r d=>
  simp only[zQn]at a;simp only[tbS,QZ,zGg];split at a
  .rename_i e;cases a;simp only[e,h];exact⟨b,c⟩
  .rename_i e;simp only[e];exact d a
theorem zZi{tb:TbF}{f:Nat}{g:JE->JF}(h:zQn tb f=some g):(f,g)∈tb:=by
 induction tb with
 |nil=>cases h
 |cons s r a=>
  simp only[zQn]at h;split at h
  .rename_i e;cases h;rw[zb e];exact .head _
  .exact .tail _ (a h)
structure Stp{β:Type}(G:Cx)(tb:TbF)(st:Sta)(wk:Bool)(k:AV->Sta->Option β)(r:β)(W:(AV->Sta->Prop)->Prop)(v u:AV)(st':Sta):Prop where
 k:k u st'=some r
 uf:WK v u
 eq:wk=false->u=v
 cp:CP st'.mv st'.m u
 vv:CPS st'
 w:∀C:AV->Sta->Prop,C v st'->W C
 le:st.mv<=st'.mv
section
variable{β:Type}{P:Program}{G:Cx}{tb:TbF}{st:Sta}{k:AV->Sta->Option β}{r:β}{wk:Bool}
theorem zaD{H:Heap}{sz n m:Nat}{u:AV}{g:JE}(A:HCP n m H)(f:CP n m u)(a:zBK H sz u=some g)(c:(zQh u||ppS 12 (.agg g))=true):∀e∈g,PP e:=by
 rw[Bool.or_eq_true]at c;rcases c.symm with c|c
 .have j:CP n m (.agg g):=by
   refine .agg _ λe d=>?_
   cases u with
   |qa=>cases a;cases d
   |qf l B=>
    simp only[zBK]at a;split at a
    .cases a;cases f with
     |qf _ _ h=>exact(h e d).cp
    .cases a
   |row=>
    simp only[zBK]at a;split at a
    .split at a
     .rename_i str I t;split at a
      .obtain⟨_,K,_,J,x⟩:=zAk a;obtain⟨i,hi⟩:=List.getElem?_of_mem d;obtain⟨F,C⟩:=z9 x;obtain⟨E,v,w⟩:=zV (C i e hi);obtain⟨p,y,D,o⟩:=A.get t;cases D;refine zCp w λz q=>o z ?_
       rw[v]at q;exact QX (QO (QX (QO q)))
      .cases a
     .cases a
    .cases a
   |str s=>
    simp only[zBK]at a;split at a
    .cases a;obtain⟨b,_,rfl⟩:=QR.1 d;exact .int _ _
    .cases a
   |_=>cases a
  have:=zCv 12 j c;cases this with
  |agg _ h=>exact h
 .cases u with
  |qf l B=>
   simp only[zBK]at a;split at a
   .cases a;cases f with
    |qf _ _ h=>exact h
   .cases a
  |str s=>
   simp only[zBK]at a;split at a
   .cases a;intro e d;obtain⟨b,_,rfl⟩:=QR.1 d;exact .int _ _
   .cases a
  |_=>cases c
theorem zTW{sz len n m:Nat}{cs es:JE}(l:zC6 sz len cs=some es)(a:∀c∈cs,CP n m c)(h:es.all (ppS 12)=true):∀e∈es,PP e:=by
 obtain⟨h1,h2,h3,h4,f⟩:=zAk l;intro e d;obtain⟨i,hi⟩:=List.getElem?_of_mem d;obtain⟨q1,o⟩:=z9 f;obtain⟨p,j,g⟩:=zV (o i e hi);refine zCv (n:=n) (k:=m) 12 (zCp g λx b=>a x ?_) (QH.1 h e d)
 rw[j]at b;exact QO (QX (QO b))
theorem zVo{l:Bool}{j:List Kd}{e:AV}:∀{es:List (AV×AV)}{u:AV},(∀p∈es,PP p.1/\PP p.2)->zAE l j e es=some (some u)->PP u:=by
 intro es
 induction es with
 |nil=>intro u _ h;cases h
 |cons q r g=>
  intro u a h;simp only[zAE]at h;split at h
  .cases h;exact(a _ (.head _)).2
  .exact g (λp d=>a p (.tail _ d)) h
  .cases h
theorem zcy{t:Bool}{m:List Kd}{l u:AV}(g:PP l)(e:PP u):∀{es d:List (AV×AV)},(∀p∈es,PP p.1/\PP p.2)->zCm t m l u es=some d->∀p∈d,PP p.1/\PP p.2:=by
 intro es
 induction es with
 |nil=>intro d _ h p a;cases h;simp only[QU]at a;subst a;exact⟨g,e⟩
 |cons q r o=>
  intro d j h p a;simp only[zCm]at h;split at h
  .cases h;rcases QJ.1 a with rfl|a
   .exact⟨g,e⟩
   .exact j p (.tail _ a)
  .split at h
   .rename_i v n;cases h;rcases QJ.1 a with rfl|a
    .exact j _ (.head _)
    .exact o (λp a=>j p (.tail _ a)) n p a
   .cases h
  .cases h
theorem zQ6{n:Int}{lo hi:JF}{k:Int->Int->Option β}(h:zSv n lo hi k=some r):∃l u,k l u=some r/\∀C:Int->Int->Prop,C l u->zJy n lo hi C:=by
 unfold zSv at h;split at h
 .split at h
  .exact⟨_,_,h,λC hc=>hc⟩
  .obtain⟨h1,h2⟩:=zCK h;exact⟨_,_,h2,λC hc=>⟨h1,hc⟩⟩
  .cases h
 .split at h
  .obtain⟨h1,h2⟩:=zCK h;exact⟨_,_,h2,λC hc=>⟨h1,hc⟩⟩
  .obtain⟨h1,h2⟩:=zCK h;exact⟨_,_,h2,λC hc=>⟨h1,hc⟩⟩
  .cases h
 .cases h
theorem zG6{n:Int}:∀{l:Nat}{k:Nat->Option β},zMY n l k=some r->∃m,m<l/\n=.ofNat m/\k m=some r
 |0,k,h=>by cases h
 |l+1,k,h=>by
  rcases zM0 h with⟨e,h⟩|⟨_,h⟩
  .exact⟨l,QS _,Qm e,h⟩
  .obtain⟨m,h1,h2,h3⟩:=zG6 h;exact⟨m,Nat.lt_succ_of_lt h1,h2,h3⟩
theorem zL0{n:Int}{m:Nat}(a:n=.ofNat m):∀{l:Nat}{C:Nat->Prop},C m->zIp n l C
 |0,C,_=>trivial
 |l+1,C,h=>⟨zL0 a h,λe=>by
  have:m=l:=by rw[a]at e;exact Int.ofNat.inj e
  exact this▸h⟩
theorem zTX{f:Nat}{vs:JE}{B:List K}(l:TbW P G (tbS tb))(s:CPS st)(d:∀x∈vs,CP st.mv st.m x)(h:zUJ wk tb f vs B st k=some r):∃v u z,Stp G tb st wk k r (zCY (tbS tb) f vs st) v u z:=by
 have key:∀{args:JE}{y:AV->Option β},(∀x∈args,PP x)->zUu wk tb f args B y=some r->∃v u,PP v/\WK v u/\(wk=false->u=v)/\y u=some r/\∀C:AV->Prop,C v->zGg (tbS tb) f args C:=λ{args y} b h=>by
  unfold zUu at h;split at h
  .rename_i g t;have j:=zZi t;have e:(f,(λargs:JE=>∀x∈args,PP x),g)∈tbS tb:=QR.2 ⟨_,j,rfl⟩
   split at h
   .obtain⟨v,h1,h2⟩:=zKM h;exact⟨v,v,(l _ e args v b h1).2.1,.refl _,λ_=>rfl,h2,λC hc=>zVn t h1 b hc⟩
   .obtain⟨v,u,h1,h2,h3,h4⟩:=zM1 h;exact⟨v,u,(l _ e args v b h1).2.1,h2,h3,h4,λC hc=>zVn t h1 b hc⟩
  .cases h
 unfold zUJ at h;split at h
 .rename_i n;have b:∀x∈vs,PP x:=λx o=>zKL 8 (d x o) (by have:=List.any_eq_false.1 n x o;simpa using this)
  obtain⟨v,u,h1,h2,h3,h4,w⟩:=key b h;exact⟨v,u,st,h4,h2,h3,(h2.pp h1).cp,s,λC hc=>by unfold zCY;simp only[n];exact w _ hc,(by first|exact QB _|exact QV _)⟩
 .rename_i n;split at h
  .rename_i c a;have b:∀x∈c,PP x:=by
    obtain⟨m1,m2⟩:=zA1 a;intro x o;obtain⟨i,hi⟩:=List.getElem?_of_mem o;have p:i<vs.length:=by have:=(QC.1 hi).1;omega
    have D:=QD p;exact frz_pp s 8 (d _ (QF D)) (m2 i _ x D hi)
   obtain⟨v,u,h1,h2,h3,h4,w⟩:=key b h;split at h4
   .rename_i A;have q:zBT 8 v=true:=scalar_wk 8 h2 A;exact⟨v,u,st,h4,h2,h3,(h2.pp h1).cp,s,λC hc=>by unfold zCY;simp only[n,a];exact w _ (by simp only[q];exact hc),(by first|exact QB _|exact QV _)⟩
   .cases h4
  .cases h
where
 scalar_wk:∀(d:Nat){v u:AV},WK v u->zBT d u=true->zBT d v=true:=by
  intro d
  induction d with
  |zero=>intro v u _ h;cases h
  |succ d ih=>
   intro v u hw h;have al:∀{cs cs':JE},cs.length=cs'.length->(∀(i:Nat) c c',cs[i]?=some c->cs'[i]?=some c'->WK c c')->cs'.all (zBT d)=true->cs.all (zBT d)=true:=λhl hi ha=>by
    rw[QH]at ha⊢;intro c hc;obtain⟨i,hi'⟩:=List.getElem?_of_mem hc;have hlt:=(QC.1 hi').1;have h2:=QD (show i<_ from hl▸hlt)
    exact ih (hi i c _ hi' h2) (ha _ (QF h2))
   cases hw with
   |refl=>exact h
   |nil=>cases h
   |qc=>cases h
   |iface t hw=>exact ih hw h
   |agg hl hi=>exact al hl hi h
   |qd hl hi=>exact al hl hi h
 frz_pp {st:Sta} (s:CPS st):∀(d:Nat){v v':AV},CP st.mv st.m v->frz st.H st.V d v=some v'->PP v':=by
  intro d
  induction d with
  |zero=>intro v v' _ h;cases h
  |succ d ih=>
   intro v v' hcp h;have al:∀{l l':JE},(∀e∈l,CP st.mv st.m e)->zC (frz st.H st.V d) l=some l'->∀e∈l',PP e:=λhl hm=>by
    obtain⟨m1,m2⟩:=zA1 hm;intro x hx;obtain⟨i,hi⟩:=List.getElem?_of_mem hx;have hlt:=(QC.1 hi).1;have hv:=QD (show i<_ from m1▸hlt)
    exact ih (hl _ (QF hv)) (m2 i _ x hv hi)
   unfold frz at h;split at h
   .split at h
    .rename_i hV;cases h;exact .qf _ _ (s.V _ _ hV).2
    .cases h
   .split at h
    .rename_i hg;obtain⟨str,cs,e,hc⟩:=s.H.get hg;cases e;split at h
     .rename_i cs' hcs;cases h;exact .qc _ _ (.agg _ (al hc hcs))
     .cases h
    .cases h
   .cases hcp with
    |func _ _ _ ha hb=>
     split at h
     .rename_i a' hA;split at h
      .rename_i b' hB;cases h;exact .func _ _ _ (al ha hA) (al hb hB)
      .cases h
     .cases h
   .cases hcp with
    |agg _ hc=>
     split at h
     .rename_i cs' hcs;cases h;exact .agg _ (al hc hcs)
     .cases h
   .split at h
    .rename_i hg;obtain⟨str,cs,e,hc⟩:=s.H.get hg;cases e;split at h
     .split at h
      .rename_i hre;split at h
       .rename_i hpp;cases h;refine .qf _ _ λe he=>?_
        obtain⟨h1,h2,h3,h4,h5⟩:=zAk hre;obtain⟨i,hi⟩:=List.getElem?_of_mem he;obtain⟨q1,q2⟩:=z9 h5;obtain⟨q3,q4,q5⟩:=zV (q2 i e hi);refine zCv (n:=st.mv) (k:=st.m) 8 (zCp q5 λx hx=>hc x ?_) (QH.1 hpp e he)
        rw[q4]at hx;exact QX (QO (QX (QO hx)))
       .cases h
      .cases h
     .cases h
    .cases h
   .split at h
    .cases h
    .rename_i hh;cases h;exact zKL d hcp hh
theorem zS7(ai:TbW P G (tbS tb))(O:GPP G){o:XO}{Y:List K}(d:zx o=true)(s:CPS st)(h:fop wk G tb st o Y k=some r):∃v u D,Stp G tb st wk k r (wop G (tbS tb) st o Y) v u D:=by
 have E:∀{o':XO},zMW o'=true->zx o'=true->FXd st (xoS G zf st.fr st.H st.m o') k=some r->∃v u D,Stp G tb st wk k r (λC=>WXd st (xoS G zf st.fr st.H st.m o') C) v u D:=λ{o'} hd d h=>by
  unfold FXd at h;split at h
  .rename_i v H m e;obtain⟨h1,h2⟩:=zPi hd d O s.fr s.H e;obtain⟨h3,h4⟩:=zSs hd s.lt e;exact⟨v,v,_,h,.refl _,λ_=>rfl,h1,⟨s.fr.mono (QB _) h4,h2,s.V,h3⟩,λC hc=>by unfold WXd;simp only[e];exact hc,(by first|exact QB _|exact QV _)⟩
  .cases h
 have val:∀{v u:AV}{W:(AV->Sta->Prop)->Prop},WK v u->(wk=false->u=v)->CP st.mv st.m u->k u st=some r->(∀C:AV->Sta->Prop,C v st->W C)->∃v u D,Stp G tb st wk k r W v u D:=λhw J hc hk hC=>⟨_,_,st,hk,hw,J,hc,s,hC,(by first|exact QB _|exact QV _)⟩
 have B:∀{v:AV}{W:(AV->Sta->Prop)->Prop},CP st.mv st.m v->k v st=some r->(∀C:AV->Sta->Prop,C v st->W C)->∃v u D,Stp G tb st wk k r W v u D:=λhc hk hC=>val (.refl _) (λ_=>rfl) hc hk hC
 have I:CP (st.mv+1) st.m (.sym st.mv):=.sym _ (QS _);have nil:CP st.mv st.m (.qd []):=.qd _ λe J=>by cases J
 cases o<;>try (cases h;done)
 all_goals try (exact E rfl d h)
 case build z ps=>
  simp only[fop]at h
  delta wop;dsimp only
  cases Y with
  |nil=>exact E rfl d h
  |cons k0 Y=>
   dsimp only at h;unfold FXd at h;split at h
   .rename_i v H m e;obtain⟨h1,h2⟩:=zPi (o:=.build z ps) rfl d O s.fr s.H e;obtain⟨h3,h4⟩:=zSs (o:=.build z ps) rfl s.lt e;obtain⟨v',u,e1,e2,e3,e4⟩:=zM1 h;cases e1;exact⟨v,u,_,e4,e2,e3,e2.cp h1,⟨s.fr.mono (QB _) h4,h2,s.V,h3⟩,λC hc=>by unfold WXd;simp only[e];exact hc,(by first|exact QB _|exact QV _)⟩
   .cases h
 case wg x i l N ag=>
  simp only[fop]at h
  delta wop;dsimp only
  cases Y with
  |nil=>exact E rfl d h
  |cons k0 Y=>
   dsimp only at h⊢;split at h
   .rename_i kd n hi;rw[hi];obtain⟨m,h1,h2,h3⟩:=zG6 h;have A:zx (.wg x (.c (.int kd (.ofNat m))) l N ag)=true:=by
     simp only[zx,XO.qb,z7,List.all_append,QY,List.all_nil,QT,QA]at d⊢;exact⟨d.1,rfl⟩
    obtain⟨v,u,D,q⟩:=E (o':=.wg x (.c (.int kd (.ofNat m))) l N ag) rfl A h3;refine⟨v,u,D,q.k,q.uf,q.eq,q.cp,q.vv,λC hc=>⟨⟨by rw[h2];exact Ql _,by rw[h2];exact Int.ofNat_lt.2 h1⟩,zL0 h2 (q.w C hc)⟩,q.le⟩
   .cases h
 case qz x i l N=>
  simp only[fop]at h
  delta wop;dsimp only
  cases Y with
  |nil=>exact E rfl d h
  |cons k0 Y=>
   dsimp only at h⊢;split at h
   .rename_i kd n hi;rw[hi];obtain⟨m,h1,h2,h3⟩:=zG6 h;have A:zx (.qz x (.c (.int kd (.ofNat m))) l N)=true:=by
     simp only[zx,XO.qb,z7,List.all_append,QY,List.all_nil,QT,QA]at d⊢;exact⟨d.1,rfl⟩
    obtain⟨v,u,D,q⟩:=E (o':=.qz x (.c (.int kd (.ofNat m))) l N) rfl A h3;refine⟨v,u,D,q.k,q.uf,q.eq,q.cp,q.vv,λC hc=>⟨⟨by rw[h2];exact Ql _,by rw[h2];exact Int.ofNat_lt.2 h1⟩,zL0 h2 (q.w C hc)⟩,q.le⟩
   .cases h
 case vZ neg lit kt x y=>
  simp only[fop]at h
  delta wop;dsimp only
  cases Y with
  |nil=>exact E rfl d h
  |cons k0 Y=>
   dsimp only at h;split at h
   .split at h
    .rename_i F;split at h
     .rename_i a ha;obtain⟨q,h1,h2⟩:=zKM h;refine B (.bool _) h2 λC hc=>?_
      have e:zLz true kt a .qe=some q:=by
       cases a<;>simp only[zYj]at h1<;>first|(cases h1;done)|(cases h1;rfl)
      simp only[WXd,xoS,ha,F,e];exact hc
     .cases h
    .cases h
   .cases h
 case seq neg x y=>
  simp only[fop]at h
  delta wop;dsimp only
  cases Y with
  |nil=>exact E rfl d h
  |cons k0 Y=>
   dsimp only at h;split at h
   .rename_i F;split at h
    .rename_i N R g;obtain⟨h1,h2⟩:=zWM h;refine B (.bool _) h2 λC hc=>?_
     cases R with
     |nil=>cases h1
     |cons e R=>
      simp only[WXd,xoS,g,F,zLA];exact hc
    .rename_i g;refine B (.bool _) h λC hc=>?_
     simp only[WXd,xoS,g,F,zLA];exact hc
    .cases h
   .cases h
 case pick cc x y=>
  simp only[fop]at h
  delta wop;dsimp only
  have A:(zG cc=true/\zG x=true)/\zG y=true:=by simp only[zx,XO.qb,z7,List.all_append,QY,List.all_nil,QT,QA]at d;exact d
  split at h
  .rename_i cb a7;rw[a7];split at h
   .rename_i n;rcases zM0 h with⟨rfl,h2⟩|⟨rfl,h2⟩
    .split at h2
     .rename_i v S;exact⟨v,v,_,h2,.refl _,λ_=>rfl,zY O s.fr A.1.2 S,s.put (.bool _),λC hc=>by simp only[Br,S];exact hc,(by first|exact QB _|exact QV _)⟩
     .cases h2
    .split at h2
     .rename_i v S;exact⟨v,v,_,h2,.refl _,λ_=>rfl,zY O s.fr A.2 S,s.put (.bool _),λC hc=>by simp only[Br,S];exact hc,(by first|exact QB _|exact QV _)⟩
     .cases h2
   .rename_i M;cases cc with
    |t n=>exact absurd rfl (M n)
    |_=>exact E rfl d h
  .cases h
 case bin op x y=>
  simp only[fop]at h
  delta wop;dsimp only
  split at h
  .rename_i s1 g;rw[g];split at h
   .split at h
    .rename_i s2 F;rw[F];obtain⟨h1,h2⟩:=zCK h;exact B (.str _) h2 λC hc=>⟨h1,hc⟩
    .cases h
   .obtain⟨v,u,D,q⟩:=E rfl d h;refine⟨v,u,D,q.k,q.uf,q.eq,q.cp,q.vv,λC hc=>?_,q.le⟩
    have:=q.w C hc;cases op<;>first|exact this|(rename_i M;exact absurd rfl M)
  .rename_i k1 n1 g;rw[g];split at h
   .split at h
    .rename_i k2 n2 F;rw[F];split at h
     .rename_i hk;obtain⟨h1,h2⟩:=zCK h;exact B (.int _ _) h2 λC hc=>by simp only[hk];exact⟨h1,hc⟩
     .cases h
    .cases h
   .split at h
    .rename_i k2 n2 F;rw[F];split at h
     .rename_i hk;obtain⟨h1,h2⟩:=zCK h;exact B (.int _ _) h2 λC hc=>by simp only[hk];exact⟨h1,hc⟩
     .cases h
    .cases h
   .split at h
    .rename_i k2 n2 F;rw[F];obtain⟨h1,h2⟩:=zCK h;exact B (.int _ _) h2 λC hc=>⟨h1,hc⟩
    .cases h
   .split at h
    .rename_i k2 n2 F;rw[F];obtain⟨h1,h2⟩:=zCK h;exact B (.int _ _) h2 λC hc=>⟨h1,hc⟩
    .cases h
   .obtain⟨v,u,D,q⟩:=E rfl d h;refine⟨v,u,D,q.k,q.uf,q.eq,q.cp,q.vv,λC hc=>?_,q.le⟩
    have:=q.w C hc;rename_i g1 g2 g3 g4;cases op<;>first|exact this|exact absurd rfl g1|exact absurd rfl g2|exact absurd rfl g3|exact absurd rfl g4
  .cases h
 case wG neg kd x y=>
  simp only[fop]at h
  delta wop;dsimp only
  split at h
  .rename_i a g;split at h
   .rename_i b F;split at h
    .rename_i q hq;rw[g,F];exact B (by unfold zCk;exact .bool _) h λC hc=>by simp only[hq];exact hc
    .cases h
   .cases h
  .cases h
 case wW x i=>
  simp only[fop]at h
  delta wop;dsimp only
  split at h
  .rename_i s1 g;split at h
   .rename_i kd n hi;rw[g,hi];obtain⟨c,h1,h2⟩:=zKM h;exact B (.int _ _) h2 λC hc=>⟨c,h1,hc⟩
   .cases h
  .cases h
 case wP x lo hi=>
  simp only[fop]at h
  delta wop;dsimp only
  split at h
  .rename_i s1 g;split at h
   .rename_i ay ae;split at h
    .rename_i aq af;rw[g];simp only[ae,af];obtain⟨l,u,h1,h2⟩:=zQ6 h;exact B (.str _) h1 λC hc=>h2 _ hc
    .cases h
   .cases h
  .cases h
 case wA x lo hi mx N=>
  simp only[fop]at h
  delta wop;dsimp only
  split at h
  .rename_i ab R g;split at h
   .rename_i hb;split at h
    .split at h
     .rename_i ay ae;split at h
      .rename_i aq af;rw[g];simp only[hb,ae,af];obtain⟨l,u,h1,h2⟩:=zQ6 h;have A:zG x=true:=by
        simp only[zx,XO.qb,z7,List.all_append,QY,List.all_nil,QT,QA]at d;exact d.1.1.1
       have X:=zY O s.fr A g;cases X with
       |qf _ _ ac=>exact B (.qf _ _ λe J=>ac e (QO (QX J))) h1 λC hc=>h2 _ hc
      .cases h
     .cases h
    .cases h
   .cases h
  .rename_i g;have bf:=g;have hh:=h;unfold FXd at hh;split at hh
   .rename_i v H m e;rw[g];have:v=.qa/\H=st.H/\m=st.m:=by
     simp only[xoS,g]at e;split at e
     .split at e
      .rename_i hq;cases e;refine⟨?_,rfl,rfl⟩
       have S:∀{v0:AV},some AV.qa=some v0->v0=.qa:=λh=>by cases h;rfl
       rename_i v0 _ _ _ q1 _ _ _ _;have:=S q1;subst this;simp only[zIW]at hq
       repeat' split at hq
       all_goals first|(cases hq;done)|(cases hq;rfl)
      .cases e
     .cases e
    obtain⟨rfl,rfl,rfl⟩:=this;exact B .qa hh λC hc=>by unfold WXd;simp only[e];exact hc
   .cases hh
  .cases h
 case qB x i N=>
  simp only[fop]at h
  delta wop;dsimp only
  have A:zG x=true/\zG i=true:=by simp only[zx,XO.qb,z7,List.all_append,QY,List.all_nil,QT,QA]at d;exact d
  split at h
  .rename_i ab R g;split at h
   .rename_i hb;split at h
    .rename_i kd n hi;rw[g];simp only[hb,hi];split at h
     .obtain⟨m,h1,h2,h3⟩:=zG6 h;unfold bd at h3;split at h3
      rotate_left
      .cases h3
      rename_i v S;have X:=zY O s.fr A.1 g;cases X with
      |qf _ _ ac=>exact val (.refl _) (λ_=>rfl) (.qc _ _ (ac v (QF S))) h3 λC hc=>⟨v,by rw[h2];exact S,hc⟩
     obtain⟨v,u,h1,h2,h3,h4⟩:=zM1 h;have X:=zY O s.fr A.1 g;cases X with
     |qf _ _ ac=>
      have aa:PP v:=by
       unfold ixN at h1;split at h1
       .exact ac v (QF h1)
       .cases h1
      exact val (.qc 0 h2) (λe=>by rw[h3 e]) (.qc _ _ (h2.pp aa)) h4 λC hc=>⟨v,h1,hc⟩
    .cases h
   .cases h
  .rename_i j g;split at h
   .rename_i ab R L;split at h
    .rename_i hb;split at h
     .rename_i kd n hi;rw[g];simp only[L,hb,hi];obtain⟨h1,h2⟩:=zCK h;exact⟨_,_,_,h2,.refl _,λ_=>rfl,I,s.vd trivial,λC hc=>⟨h1,hc⟩,(by first|exact QB _|exact QV _)⟩
     .cases h
    .cases h
   .cases h
  .rename_i g;split at h
   .rename_i kd n hi;rw[g];simp only[hi];obtain⟨m,h1,h2,h3⟩:=zG6 h;have aj:zx (.qB x (.c (.int kd (.ofNat m))) N)=true:=by
     simp only[zx,XO.qb,z7,List.all_append,QY,List.all_nil,QT,QA];exact⟨A.1,rfl⟩
    obtain⟨v,u,D,q⟩:=E (o':=.qB x (.c (.int kd (.ofNat m))) N) rfl aj h3;refine⟨v,u,D,q.k,q.uf,q.eq,q.cp,q.vv,λC hc=>⟨⟨by rw[h2];exact Ql _,by rw[h2];exact Int.ofNat_lt.2 h1⟩,zL0 h2 (q.w C hc)⟩,q.le⟩
   .cases h
  .cases h
 case wq x=>
  simp only[fop]at h
  delta wop;dsimp only
  split at h
  .rename_i j g;split at h
   .rename_i N R L;rw[g];simp only[L];exact B (.int _ _) h λC hc=>hc
   .cases h
  .rename_i M;obtain⟨v,u,D,q⟩:=E rfl d h;refine⟨v,u,D,q.k,q.uf,q.eq,q.cp,q.vv,λC hc=>?_,q.le⟩
   split
   .rename_i j g;exact absurd g (M j)
   .exact q.w C hc
 case load x N ag=>
  have hd:=λh=>E (o':=.load x N ag) rfl d h
  simp only[fop]at h
  delta wop;dsimp only
  cases hc:isC Y with
  |true=>
   cases g:x.ev G st.fr with
   |none=>rw[hc,g]at h;cases h
   |some a=>rw[hc,g]at h;cases a<;>first|(cases h;done)|exact hd h
  |false=>
   cases g:x.ev G st.fr with
   |none=>rw[hc,g]at h;exact hd h
   |some a=>
    rw[hc,g]at h;cases a with
    |sym p=>
     simp only at h⊢;split at h
     .rename_i j i off T;split at h
      .rename_i ab R L;obtain⟨v,u,h1,h2,h3,h4⟩:=zM1 h;have aa:PP v:=by
        unfold ldE at h1;split at h1
        .rename_i e J;exact zS3 ((s.V _ _ L).2 e (QF J)).cells h1
        .cases h1
       exact val h2 h3 (h2.pp aa).cp h4 λC hc=>by simp only[T,L];exact⟨v,h1,hc⟩
      .cases h
     .cases h
    |_=>exact hd h
 case qD x f=>
  simp only[fop]at h
  delta wop;dsimp only
  split at h
  .rename_i p g;split at h
   .rename_i j i off T;split at h
    .rename_i ab R L;rw[g];simp only[T,L];exact⟨_,_,_,h,.refl _,λ_=>rfl,I,s.vd trivial,λC hc=>hc,(by first|exact QB _|exact QV _)⟩
    .cases h
   .cases h
  .rename_i M;obtain⟨v,u,D,q⟩:=E rfl d h;refine⟨v,u,D,q.k,q.uf,q.eq,q.cp,q.vv,λC hc=>?_,q.le⟩
   split
   .rename_i j g;exact absurd g (M j)
   .exact q.w C hc
 case store x y N=>
  simp only[fop]at h
  delta wop;dsimp only
  have A:zG x=true/\zG y=true:=by simp only[zx,XO.qb,z7,List.all_append,QY,List.all_nil,QT,QA]at d;exact d
  split at h
  .rename_i p g;split at h
   .rename_i j i off T;split at h
    .rename_i ab R L;split at h
     .rename_i v F;split at h
      .rename_i hb;split at h
       .rename_i new aw;rw[g];simp only[T,L,F,hb,aw];simp only[QA]at hb;have aa:PP v:=zCv 12 (zY O s.fr A.2 F) hb.2;refine⟨_,_,_,h,.refl _,λ_=>rfl,nil,s.u3 (s.V _ _ L).1 (λe J=>?_),λC hc=>hc,(by first|exact QB _|exact QV _)⟩
        rcases List.mem_or_eq_of_mem_set J with J|rfl
        .exact(s.V _ _ L).2 e J
        .exact aa
       .cases h
      .cases h
     .cases h
    .cases h
   .cases h
  .rename_i M;obtain⟨v,u,D,q⟩:=E rfl d h;refine⟨v,u,D,q.k,q.uf,q.eq,q.cp,q.vv,λC hc=>?_,q.le⟩
   split
   .rename_i j g;exact absurd g (M j)
   .exact q.w C hc
 case vU x=>
  simp only[fop]at h
  delta wop;dsimp only
  split at h
  .rename_i s1 g;rw[g];refine⟨_,_,_,h,.refl _,λ_=>rfl,I,s.vd (λe J=>?_),λC hc=>hc,(by first|exact QB _|exact QV _)⟩
   obtain⟨b,_,rfl⟩:=QR.1 J;exact .int _ _
  .cases h
 case vF x=>
  simp only[fop]at h
  delta wop;dsimp only
  split at h
  .rename_i j g;split at h
   .rename_i N R L;split at h
    .rename_i hb;rw[g];simp only[L,hb];obtain⟨q,h1,h2⟩:=zKM h;exact B (.str _) h2 λC hc=>⟨q,h1,hc⟩
    .cases h
   .cases h
  .rename_i N R g;split at h
   .rename_i hb;rw[g];simp only[hb];obtain⟨q,h1,h2⟩:=zKM h;exact B (.str _) h2 λC hc=>⟨q,h1,hc⟩
   .cases h
  .rename_i g;rw[g];exact B (.str _) h λC hc=>hc
  .cases h
 case qx len N z ps=>
  simp only[fop]at h
  delta wop;dsimp only
  cases Y with
  |cons k0 Y=>
   cases k0 with
   |c u=>
    dsimp only at h⊢;split at h
    .rename_i R J;rw[J];obtain⟨cs,hf,hl,hr,T⟩:=zVe J;simp only[zx,XO.qb,QA]at d;have hz:z.all (zAA 12)=true:=d.2;have ad:∀c'∈cs,CP st.mv st.m c':=zI8 O s.fr (by simpa[List.all_map]using d.1) (λc' hc=>(zA0 12 (QH.1 hz c' hc)).cp) hf
     exact B (.qf _ _ (zTW hr ad T)) h λC hc=>hc
    .cases h
   |_=>exact E rfl d h
  |nil=>
   dsimp only at h⊢;split at h
   .rename_i cs hf;split at h
    .rename_i hl;split at h
     .rename_i R hr;split at h
      .rename_i T;simp only[hf,hl,hr,T];simp only[zx,XO.qb,QA]at d;have hz:z.all (zAA 12)=true:=d.2;have ad:∀c'∈cs,CP st.mv st.m c':=zI8 O s.fr (by simpa[List.all_map]using d.1) (λc' hc=>(zA0 12 (QH.1 hz c' hc)).cp) hf
       exact⟨_,_,_,h,.refl _,λ_=>rfl,I,s.vd (zTW hr ad T),λC hc=>hc,(by first|exact QB _|exact QV _)⟩
      .cases h
     .cases h
    .cases h
   .cases h
 case qN l cx N bytes z=>
  simp only[fop]at h
  delta wop;dsimp only
  split at h
  .rename_i k1 n hl;split at h
   .rename_i k2 m X;split at h
    .rename_i e hr hz;rw[hl];simp only[X,hr,hz];obtain⟨h1,h2⟩:=zCK h;simp only[zx,XO.qb,QA]at d;have bb:z.all (zAA 12)=true:=d.2;have a6:∀c'∈z,PP c':=λc' hc=>zA0 12 (QH.1 bb c' hc)
     have a8:PP e:=by
      obtain⟨q1,q2,q3,q4,q5⟩:=zAk hr;have az:=(z9 q5).2 0 e rfl;obtain⟨_,q7,q8⟩:=zV az;refine zQ3 q8 λx g=>a6 x ?_
      rw[q7]at g;exact QO (QX (QO g))
     exact⟨_,_,_,h2,.refl _,λ_=>rfl,I,s.vd (λx g=>by rw[(List.mem_replicate.1 g).2];exact a8),λC hc=>⟨h1,hc⟩,(by first|exact QB _|exact QV _)⟩
    .cases h
   .cases h
  .cases h
 case append x y N bytes=>
  simp only[fop]at h
  delta wop;dsimp only
  have A:zG x=true/\zG y=true:=by simp only[zx,XO.qb,z7,List.all_append,QY,List.all_nil,QT,QA]at d;exact d
  split at h
  .cases h
  .rename_i ao;split at h
   .rename_i v g;split at h
    .rename_i u F;split at h
     .rename_i ys J;split at h
      .rename_i ah;have ak:=zaD s.H (zY O s.fr A.2 F) J ah;split at h
       .obtain⟨h1,h2⟩:=zCK h;rw[g,F];simp only[ao,J,ah];exact⟨_,_,_,h2,.refl _,λ_=>rfl,I,s.vd ak,λC hc=>⟨h1,hc⟩,(by first|exact QB _|exact QV _)⟩
       .rename_i j;split at h
        .rename_i ab R L;split at h
         .rename_i hb;obtain⟨h1,h2⟩:=zCK h;rw[g,F];simp only[ao,J,ah,L,hb];exact⟨_,_,_,h2,.refl _,λ_=>rfl,I,s.jf (λe J=>(QI.1 J).elim ((s.V _ _ L).2 e) (ak e)),λC hc=>⟨h1,hc⟩,(by first|exact QB _|exact QV _)⟩
         .cases h
        .cases h
       .cases h
      .cases h
     .cases h
    .cases h
   .cases h
 case wv=>
  exact⟨_,_,_,h,.refl _,λ_=>rfl,I,s.vd (λp T=>by cases T),λC hc=>hc,(by first|exact QB _|exact QV _)⟩
 case lookup ag kd m x z ok=>
  simp only[fop]at h
  delta wop;dsimp only
  have hz:zAA 12 z=true:=by simp only[zx,XO.qb,z7,QA]at d;exact d.2
  split at h
  .rename_i j hm;split at h
   .rename_i R L;split at h
    .rename_i kv g;split at h
     .rename_i bc;rw[hm];simp only[L,g,bc];have hl:∀{b:Bool}{u:AV},PP u->PP (lkV ok b u):=λ{b u} hu=>by
       cases ok
       .exact hu
       .exact .qd _ λe J=>by
         simp only[QJ,List.not_mem_nil,or_false]at J;rcases J with rfl|rfl
         .exact hu
         .exact .bool _
      split at h
      .obtain⟨q,h1,h2⟩:=zVm h;cases q with
       |some u=>
        have T:PP (lkV ok true u):=hl (zVo (s.V _ _ L).2 h1);exact val (.refl _) (λ_=>rfl) T.cp h2 λC hc=>⟨_,by rw[h1];rfl,hc⟩
       |none=>
        have T:PP (lkV ok false z):=hl (zA0 12 hz);exact val (.refl _) (λ_=>rfl) T.cp h2 λC hc=>⟨_,by rw[h1];rfl,hc⟩
      obtain⟨v,u,h1,h2,h3,h4⟩:=zM1 h;have aa:PP v:=by
       unfold lkR at h1;split at h1
       .rename_i hf;cases h1;exact hl (zVo (s.V _ _ L).2 hf)
       .cases h1;exact hl (zA0 12 hz)
       .cases h1
      exact val h2 h3 (h2.pp aa).cp h4 λC hc=>⟨v,h1,hc⟩
     .cases h
    .cases h
   .cases h
  .cases h
 case wR ag kd m x y=>
  simp only[fop]at h
  delta wop;dsimp only
  have A:(zG m=true/\zG x=true)/\zG y=true:=by simp only[zx,XO.qb,z7,List.all_append,QY,List.all_nil,QT,QA]at d;exact d
  split at h
  .rename_i j hm;split at h
   .rename_i R L;split at h
    .rename_i kv g;split at h
     .rename_i u F;split at h
      .rename_i hb;rw[hm];simp only[L,g,F,hb];simp only[QA]at hb;obtain⟨ax,h1,h2⟩:=zKM h;have au:PP kv:=zCv 12 (zY O s.fr A.1.2 g) hb.1.2;have ba:PP u:=zCv 12 (zY O s.fr A.2 F) hb.2;exact⟨_,_,_,h2,.refl _,λ_=>rfl,nil,s.u3 (s.V _ _ L).1 (zcy au ba (s.V _ _ L).2 h1),λC hc=>⟨ax,h1,hc⟩,(by first|exact QB _|exact QV _)⟩
      .cases h
     .cases h
    .cases h
   .cases h
  .cases h
 case call f xs=>
  simp only[fop]at h
  delta wop;dsimp only
  have A:xs.all zG=true:=by simp only[zx,XO.qb,z7,QT]at d;exact d
  split at h
  .rename_i vs S;rw[S];exact zTX ai s (zFT O s.fr A S) h
  .cases h
 case qO fx xs=>
  simp only[fop]at h
  delta wop;dsimp only
  have A:zG fx=true/\xs.all zG=true:=by simp only[zx,XO.qb,z7,List.all_append,QY,List.all_nil,QT,QA]at d;exact d
  split at h
  .rename_i f first be hf;split at h
   .rename_i vs S;rw[hf];simp only[S];refine zTX ai s (λx g=>?_) h
    have ar:=zY O s.fr A.1 hf;cases ar with
    |func _ _ _ q1 q2=>
     rcases QI.1 g with g|g
     .rcases QI.1 g with g|g
      .exact q1 x g
      .exact zFT O s.fr A.2 S x g
     .exact q2 x g
   .cases h
  .cases h
end
theorem zQp{h:Nat}{l:JV}{k:Nat}(e:posN h 0 l=some k):k<l.length:=by
 obtain⟨j,h1,h2⟩:=zEv e;have:=(QC.1 h2).1;omega
theorem zZj{hm sm:JV}{n k:Nat}:∀(d:Nat){v v':AV},CP n k v->rnV hm sm d v=some v'->CP sm.length hm.length v':=by
 intro d
 induction d with
 |zero=>intro v v' _ h;cases h
 |succ d H=>
  intro v v' hc h;have al:∀{E F:JE},(∀e∈E,CP n k e)->zC (rnV hm sm d) E=some F->∀e∈F,CP sm.length hm.length e:=λK x e L=>by
   obtain⟨m1,m2⟩:=zA1 x;obtain⟨i,hi⟩:=List.getElem?_of_mem L;have w:=(QC.1 hi).1;have C:=QD (show i<_ from m1▸w)
   exact H (K _ (QF C)) (m2 i _ e C hi)
  unfold rnV at h;cases hc with
  |ptr B o D=>
   simp only at h;split at h
   .rename_i i hi;cases h;exact .ptr _ _ (zQp hi)
   .cases h
  |row B o l s c e D=>
   simp only at h;split at h
   .rename_i i hi;cases h;exact .row _ _ _ _ _ _ (zQp hi)
   .cases h
  |map B D=>
   simp only at h;split at h
   .rename_i i hi;cases h;exact .map _ (zQp hi)
   .cases h
  |sym j W=>
   simp only at h;split at h
   .rename_i i hi;cases h;exact .sym _ (zQp hi)
   .cases h
  |func f a b M hb=>
   simp only at h;split at h
   .rename_i R J;split at h
    .rename_i O N;cases h;exact .func _ _ _ (al M J) (al hb N)
    .cases h
   .cases h
  |iface t u hu=>
   simp only at h;split at h
   .rename_i S y;cases h;exact .iface _ _ (H hu y)
   .cases h
  |agg I p=>
   simp only at h;split at h
   .rename_i A g;cases h;exact .agg _ (al p g)
   .cases h
  |qd I p=>
   simp only at h;split at h
   .rename_i A g;cases h;exact .qd _ (al p g)
   .cases h
  |bool b=>cases h;exact .bool _
  |int q m=>cases h;exact .int _ _
  |str s=>cases h;exact .str _
  |qo=>cases h;exact .qo
  |qa=>cases h;exact .qa
  |qn=>cases h;exact .qn
  |ql=>cases h;exact .ql
  |qe=>cases h;exact .qe
  |qc e off z=>cases h;exact .qc _ _ z
  |qf T V z=>cases h;exact .qf _ _ z
def CPW(H:Heap)(V:Vecs):Prop:=CPS ⟨[],H,V,H.length,V.length⟩
theorem CPW.mk'{H:Heap}{V:Vecs}(h:CPW H V){fr:Fr}(a:zDj V.length H.length fr):CPS ⟨fr,H,V,H.length,V.length⟩:=⟨a,h.H,h.V,h.lt⟩
theorem zIu{β:Type}{r:β}{hm sm:JV}{vs:JE}{st:Sta}{k:JE->Heap->Vecs->Option β}(s:CPS st)(hc:∀v∈vs,CP st.mv st.m v)(h:zHZ hm sm vs st k=some r):
  ∃d H V,k d H V=some r/\(∀v∈d,CP V.length H.length v)/\d.length=vs.length/\CPW H V/\H.length=hm.length/\V.length=sm.length/\H.keys=List.range' 0 hm.length/\∀C:JE->Heap->Vecs->Prop,C d H V->zC7 hm sm vs st C:=by
 unfold zHZ at h;split at h
 .rename_i w;split at h
  .rename_i d f;split at h
   .rename_i H y;split at h
    .rename_i V z;obtain⟨h1,h2,h3⟩:=zK2 y;obtain⟨v1,v2⟩:=zJA z;obtain⟨m1,m2⟩:=zA1 f;have g:∀v∈d,CP V.length H.length v:=λv F=>by
      obtain⟨i,hi⟩:=List.getElem?_of_mem F;have b:=(QC.1 hi).1;have a:=QD (show i<_ from m1▸b)
      rw[v1,h1];exact zZj 8 (hc _ (QF a)) (m2 i _ v a hi)
     refine⟨d,H,V,h,g,m1,⟨λt v e=>(by cases e),λp o=>?_,λj J I=>?_,λp o=>?_⟩,h1,v1,h2,λC A=>?_⟩
     .obtain⟨j,L,str,M,u,_,rfl,B,x⟩:=h3 p o;refine⟨str,u,rfl,λc l=>?_⟩
      obtain⟨_,_,e,n⟩:=s.H.get B;cases e;obtain⟨m1,m2⟩:=zA1 x;obtain⟨i,hi⟩:=List.getElem?_of_mem l;have b:=(QC.1 hi).1;have a:=QD (show i<_ from m1▸b)
      show CP V.length H.length c
      rw[v1,h1];exact zZj 8 (n _ (QF a)) (m2 i _ c a hi)
     .obtain⟨q,K,rfl,D,E,_⟩:=v2 j J I;have:=(QC.1 D).1;exact⟨by show 0+q<V.length;omega,(s.V _ _ E).2⟩
     .have:p.1∈H.keys:=List.mem_map_of_mem o;rw[h2,List.mem_range']at this;obtain⟨i,hi,e⟩:=this;show p.1<H.length
      omega
     .unfold zC7;simp only[w,f,y,z];exact A
    .cases h
   .cases h
  .cases h
 .cases h
theorem CPS.uy{st:Sta}(s:CPS st){h sz h2:Nat}{v:AV}{es:JE}(o:zLR st.H h sz v=some (h2,es)):CPS ⟨st.fr,st.H.del h2,(st.mv,.vec sz es)::st.V,st.m,st.mv+1⟩:=by
 obtain⟨l,C,w,str,y,rfl,_,q,B,u,a⟩:=zKr o;obtain⟨q1,D,z,A,t⟩:=zAk u;obtain⟨_,_,j,c⟩:=s.H.get q;cases j;have d:∀e∈es,PP e:=by
  intro e g;obtain⟨i,hi⟩:=List.getElem?_of_mem g;obtain⟨_,p2⟩:=z9 t;obtain⟨_,p4,p5⟩:=zV (p2 i e hi);refine zCv (n:=st.mv) (k:=st.m) 12 (zCp p5 λx f=>c x ?_) (QH.1 a e g)
  rw[p4]at f;exact QO (QX (QO f))
 have b:=s.vd (vi:=.vec sz es) d;exact⟨b.fr,λp a=>b.H p ((Heap.wz _ _).subset a),b.V,λp a=>b.lt p ((Heap.wz _ _).subset a)⟩
theorem zH2{h:Nat}:∀{g:JN}{st:Sta},CPS st->CPS (qE h g st)/\(qE h g st).fr=st.fr/\(qE h g st).m=st.m/\st.mv<=(qE h g st).mv
 |[],st,s=>⟨s,rfl,rfl,QB _⟩
 |(i,v)::g,st,s=>by
  simp only[qE];split
  .rename_i str f u;split
   .have q:=s.vd (vi:=.vec v []) λe y=>by cases y
    have n:∀c∈f.set i (.sym st.mv),CP (st.mv+1) st.m c:=λc hc=>by
     rcases List.mem_or_eq_of_mem_set hc with hc|rfl
     .obtain⟨_,_,e,l⟩:=q.H.get u;cases e;exact l c hc
     .exact .sym _ (QS _)
    obtain⟨a,b,c,d⟩:=zH2 (h:=h) (g:=g) (st:=⟨st.fr,st.H.put h (.cells str (f.set i (.sym st.mv))),(st.mv,.vec v [])::st.V,st.m,st.mv+1⟩) ⟨q.fr,q.H.put n,q.V,λp j=>by
     have:p.1∈(st.H.put h (.cells str (f.set i (.sym st.mv)))).keys:=List.mem_map_of_mem j;rcases zC8 j with rfl|j
     .exact s.lt (h,.cells str f) (Heap.qj u)
     .exact s.lt p j⟩
    exact⟨a,b,c,Qh (QV _) d⟩
   .split
    .rename_i h2 x w;have s1:=s.uy w;have o:(st.H.del h2).get h=some (.cells str f):=by
      obtain⟨_,_,_,_,_,_,t,_⟩:=zKr w;exact(Heap.qR t).trans u
     have n:∀c∈f.set i (.sym st.mv),CP (st.mv+1) st.m c:=λc hc=>by
      rcases List.mem_or_eq_of_mem_set hc with hc|rfl
      .obtain⟨_,_,e,l⟩:=s1.H.get o;cases e;exact l c hc
      .exact .sym _ (QS _)
     obtain⟨a,b,c,d⟩:=zH2 (h:=h) (g:=g) (st:=⟨st.fr,(st.H.del h2).put h (.cells str (f.set i (.sym st.mv))),(st.mv,.vec v x)::st.V,st.m,st.mv+1⟩) ⟨s1.fr,s1.H.put n,s1.V,λp j=>by
      rcases zC8 j with rfl|j
      .exact s1.lt (h,.cells str f) (Heap.qj o)
      .exact s1.lt p j⟩
     exact⟨a,b,c,Qh (QV _) d⟩
    .exact zH2 s
   .exact zH2 s
  .exact⟨s,rfl,rfl,QB _⟩
theorem CPS.wJ{st:Sta}(s:CPS st):∀(k:Nat){v:AV},CP st.mv st.m v->CP st.mv st.m (Sy.wJ st.V k v):=by
 intro k
 induction k with
 |zero=>intro v hc;exact hc
 |succ k c=>
  intro v hc;unfold Sy.wJ;split
  .split
   .rename_i d;exact .qf _ _ (s.V _ _ d).2
   .exact hc
  .cases hc with
   |agg _ h=>
    refine .agg _ λe a=>?_
    obtain⟨x,b,rfl⟩:=QR.1 a;exact c (h x b)
  .cases hc with
   |qd _ h=>
    refine .qd _ λe a=>?_
    obtain⟨x,b,rfl⟩:=QR.1 a;exact c (h x b)
  .exact hc
theorem CPS.wD{st:Sta}(s:CPS st){v:AV}(hc:CP st.mv st.m v):CP st.mv st.m (Sy.wD st.V v):=s.wJ 4 hc
theorem CPS.wy{st:Sta}(s:CPS st):CPS (wy st):=by
 refine⟨λt u hu=>?_,λp b=>?_,λj l h=>(by cases h),λp b=>?_⟩
 rotate_left
 .obtain⟨q,a,rfl⟩:=QR.1 b;obtain⟨str,i,e,d⟩:=s.H q a;simp only[e];exact⟨str,_,rfl,λc hc=>by
   obtain⟨y,g,rfl⟩:=QR.1 hc;exact s.wJ 4 (d y g)⟩
 .obtain⟨q,a,rfl⟩:=QR.1 b;exact s.lt q a
 have hu:Fr.get (st.fr.map λp=>(p.1,Sy.wD st.V p.2)) t=some u:=hu
 rw[Fr.get_map]at hu;cases hg:Fr.get st.fr t with
 |none=>rw[hg]at hu;cases hu
 |some f=>
  rw[hg]at hu;cases hu;exact s.wD (s.fr t f hg)
theorem CPS.wE{st:Sta}(s:CPS st){n:Nat}:CPS (wE n st):=by
 unfold Sy.wE;split
 .split
  .rename_i m;split
   .split
    .rename_i d l;have j:∀c∈d,PP c:=zGj l (s.V _ _ m).2;refine⟨λu x hu=>?_,λp a=>?_,λi f h=>?_,λp a=>?_⟩
     .rw[Fr.qu]at hu;split at hu
      .cases hu;exact .row _ _ _ _ _ _ (QS _)
      .exact(s.fr u x hu).mono (QB _) (QV _)
     .rcases QJ.1 a with rfl|a
      .exact⟨true,d,rfl,λc hc=>(j c hc).cp⟩
      .obtain⟨str,g,e,b⟩:=s.H p a;exact⟨str,g,e,λc hc=>(b c hc).mono (QB _) (QV _)⟩
     .have h:((st.V.del _).get i)=some f:=h;rw[Vecs.qR]at h;split at h
      .cases h
      .exact s.V i f h
     .rcases QJ.1 a with rfl|a
      .exact QS _
      .exact Nat.lt_succ_of_lt (s.lt p a)
    .exact s
   .exact s
  .exact s
 .exact s
theorem zBW:∀{g:JN}{st:Sta},CPS st->CPS (zDk g st)
 |[],st,s=>s
 |(t,a)::g,st,s=>by
  simp only[zDk];split
  .split
   .exact zBW s.wy
   .exact zBW s.wE
  .split
   .exact zBW ((s.vd (vi:=.vec a []) λe b=>by cases b).put (.sym _ (QS _)))
   .split
    .rename_i c;exact zBW ((s.uy c).put (.sym _ (QS _)))
    .exact zBW s
   .exact zBW s
  .split
   .exact zBW (zH2 s).1
   .exact zBW s
theorem zH3{β:Type}{r:β}{c:Cut}{F:JE->Heap->Vecs->Option β}{st:Sta}(s:CPS st)(h:zP9 c F st=some r):∃vs H V,F vs H V=some r/\CPS (mkW c vs H V)/\∀C:Inv,C vs H V->zTr c C st:=by
 have s:=zBW (g:=c.grow) s;unfold zP9 zZg at h;split at h
 .cases h
 .rename_i vs a;unfold zQo at h;have b:∀v∈vs,CP (zDk c.grow st).mv (zDk c.grow st).m v:=λv o=>by
   obtain⟨h1,h2⟩:=zPo a;obtain⟨i,hi⟩:=List.getElem?_of_mem o;have d:=(QC.1 hi).1;have j:=QD (show i<_ from h1▸d)
   exact s.fr _ _ (h2 i _ v j hi)
  obtain⟨n,H,V,h1,h2,h3,h4,_,_,_,l⟩:=zIu s b h;refine⟨n,H,V,h1,h4.mk' λt v e=>?_,λC f=>?_⟩
  .obtain⟨i,_,hi⟩:=zND e;exact h2 v (QF hi)
  .unfold zTr canon;rw[a];exact l C f
def zOm(e:FEnt):HEnt:=⟨e.f,e.grow,λargs H V=>(∀x∈args,CP V.length H.length x)/\CPW H V/\H.keys=List.range' 0 H.length,e.val⟩
structure FOK(P:Program)(G:Cx)(e:FEnt):Prop where
 h:HOK P G (zOm e)
 v:∀args H V v H2 V2,(∀x∈args,CP V.length H.length x)->CPW H V->H.keys=List.range' 0 H.length->e.val args H V=some (v,H2,V2)->∀j vi,V2.get j=some vi->j<V2.length/\VIP vi
def toT(th:TbH)(o:FOp):TOp:=⟨o.o,o.ks,o.h.map λ_=>th.map zOm⟩
theorem zNH{f:Nat}:∀{th:TbH},zKm (th.map zOm) f=(zNG th f).map zOm
 |[]=>rfl
 |s::r=>by
  simp only[QZ,zKm,zNG];have e:Nat.beq f (zOm s).f=Nat.beq f s.f:=rfl;rw[e];cases Nat.beq f s.f with
  |true=>rfl
  |false=>exact zNH
section
variable{β:Type}{P:Program}{G:Cx}{tb:TbF}{th:TbH}{st:Sta}{r:β}
theorem zZk{g:JN}{args:JE}(s:CPS st):CPS (qL g args st)/\(qL g args st).fr=st.fr/\(qL g args st).m=st.m/\st.mv<=(qL g args st).mv:=by
 unfold qL;split
 .exact zH2 s
 .exact⟨s,rfl,rfl,QB _⟩
theorem WK.wK{v u:AV}{hm:JV}{m mv:Nat}(h:WK v u):WK (Sy.wK hm m mv v) (Sy.wK hm m mv u):=by
 cases h with
 |refl=>exact .refl _
 |nil b=>exact .nil b
 |qc off h=>exact .qc off h
 |iface t h=>exact .iface t h
 |agg a h=>exact .agg a h
 |qd a h=>exact .qd a h
theorem WK.ue{v u:AV}{hm:JV}{m mv:Nat}(h:WK v u):WK (Sy.ue hm m mv v) (Sy.ue hm m mv u):=by
 cases h with
 |refl=>exact .refl _
 |nil j=>exact .nil j
 |qc off h=>exact .qc off h
 |iface t h=>exact .iface t h
 |agg e h=>exact .agg e h
 |@qd g f e h=>
  refine .qd (by simp[e]) λi c l hc d=>?_
  rw[Qb]at hc d;cases h1:g[i]? with
  |none=>rw[h1]at hc;cases hc
  |some a=>
   cases h2:f[i]? with
   |none=>rw[h2]at d;cases d
   |some b=>
    rw[h1]at hc;rw[h2]at d;cases hc;cases d;exact(h i a b h1 h2).wK
theorem zWN{H:Heap}{hm sm:JV}:∀{l:JV}{i:Nat}{H':Heap},rnH H hm sm i l=some H'->∀h∈l,∃o,H.get h=some o
 |[],i,H',e,h,a=>by cases a
 |f::r,i,H',e,h,a=>by
  simp only[rnH]at e;split at e
  .rename_i str d c;rcases QJ.1 a with rfl|a
   .exact⟨_,c⟩
   .split at e
    .split at e
     .rename_i b;exact zWN b h a
     .cases e
    .cases e
  .cases e
theorem zXJ{β:Type}{r:β}{hm sm:JV}{vs:JE}{st:Sta}{k:JE->Heap->Vecs->Option β}(s:CPS st)(h:zHZ hm sm vs st k=some r):∀x∈hm,x<st.m:=by
 unfold zHZ at h;split at h
 .split at h
  .split at h
   .rename_i H b;intro x c;obtain⟨o,a⟩:=zWN b x c;exact s.lt _ (Heap.qj a)
   .cases h
  .cases h
 .cases h
theorem zSy{e:FEnt}(he:FOK P G e){ds:List D}{args:JE}{k:AV->Sta->Option β}(s:CPS st)(ac:∀x∈args,CP st.mv st.m x)(h:zSw e ds args st k=some r):∃v u ad,Stp G tb st true k r (zEY (zOm e) args st) v u ad:=by
 obtain⟨s1,e1,e2,e3⟩:=zZk (g:=e.grow) (args:=args) s;unfold zSw zQo at h;have aa:∀x∈args,CP (qL e.grow args st).mv (qL e.grow args st).m x:=λx hx=>(ac x hx).mono e3 (by rw[e2];exact QB _)
 have J:=zXJ s1 h;obtain⟨us,H,V,h1,h2,h3,h4,h5,h6,h7,h8⟩:=zIu s1 aa h;obtain⟨v,u,n,t,g1,g2,_,g3⟩:=zcx h1;have W:H.keys=List.range' 0 H.length:=by rw[h7,h5]
 obtain⟨o,_⟩:=he.h.2 us H V v n t ⟨h2,h4,W⟩ g1;have L:=he.v us H V v n t h2 h4 W g1;generalize X:qL e.grow args st=d at *;have fin:∀C:AV->Sta->Prop,C (zLT e.grow (zEX d.H 30 0 (args.foldl (λa v=>hsA 8 v a) (List.range 0))) d.m d.mv v) (zKl e.grow (zEX d.H 30 0 (args.foldl (λa v=>hsA 8 v a) (List.range 0))) (zDy d.H (zEX d.H 30 0 (args.foldl (λa v=>hsA 8 v a) (List.range 0))) (args.foldl (λa v=>zHt 8 v a) [])) d n t)->zEY (zOm e) args st C:=λC hC=>by
  unfold zEY;have K:qL (zOm e).grow args st=d:=X;simp only[K];unfold zKY;refine h8 _ ⟨⟨h2,h4,W⟩,?_⟩
  have g1:(zOm e).val us H V=some (v,n,t):=g1;simp only[g1];exact hC
 cases hi:inpl e.grow with
 |true=>
  have w:∀hm sm,zKl e.grow hm sm d n t=⟨d.fr,d.H,zKk sm t d.V,d.m,d.mv⟩:=λhm sm=>by unfold zKl;rw[hi]
  have z:∀hm x,zLT e.grow hm d.m d.mv x=x:=λhm x=>by unfold zLT;rw[hi]
  rw[w,z]at g3;have T:PP v:=(he.h.jj hi ⟨h2,h4,W⟩ g1).2.2.2.1;refine⟨v,u,_,g3,g2,λe=>(by cases e),(g2.pp T).cp,⟨s1.fr,s1.H,?_,s1.lt⟩,λC hC=>fin C ?_,e3⟩
  .intro j vi S;obtain⟨ag,h0,⟨i,q1,M⟩|⟨rfl,_⟩⟩:=zTQ S
   .exact⟨(s1.V _ _ h0).1,(L _ _ M).2⟩
   .exact s1.V _ _ h0
  .rw[w,z];exact hC
 |false=>
 have w:∀hm sm,zKl e.grow hm sm d n t=⟨d.fr,zFy hm d.mv n d.H++zFx hm.length d.m d.mv n,zLS sm d.mv t d.V,d.m+(n.length-hm.length),d.mv+t.length⟩:=λhm sm=>by unfold zKl;rw[hi]
 have z:∀hm x,zLT e.grow hm d.m d.mv x=ue hm d.m d.mv x:=λhm x=>by unfold zLT;rw[hi]
 rw[w,z]at g3;generalize ah:zEX d.H 30 0 (args.foldl (λa v=>hsA 8 v a) (List.range 0))=hm at *
 have ab:hm.length<=n.length:=by rw[←h5];exact o.jl
 have Y:CP (d.mv+t.length) (d.m+(n.length-hm.length)) (ue hm d.m d.mv u):=by
  have one:∀{v u:AV},OP1 t.length n.length v->WK v u->CP (d.mv+t.length) (d.m+(n.length-hm.length)) (wK hm d.m d.mv u):=λ{v u} hv g2=>by
   rcases hv with f|⟨j,rfl,S⟩|⟨i,oo,rfl,hi⟩
   .have A:=g2.pp f;rw[zS4 A];exact A.cp
   .cases g2;exact .sym _ (by show d.mv+j<d.mv+t.length;omega)
   .cases g2;unfold wK;dsimp only;split
    .rename_i hb;have O:i<hm.length:=by simpa[Qi]using hb
     refine .ptr _ _ (Nat.lt_add_right _ ?_)
     rw[List.getD_eq_getElem?_getD,QD O];exact J _ (Qg O)
    .rename_i hb;have:=zKq hb;exact .ptr _ _ (by omega)
  have tp:∀{l l':JE},(∀u∈l,OP1 t.length n.length u)->l.length=l'.length->(∀(i:Nat) c c',l[i]?=some c->l'[i]?=some c'->WK c c')->CP (d.mv+t.length) (d.m+(n.length-hm.length)) (ue hm d.m d.mv (.qd l')):=λ{l l'} hl I h=>.qd _ λe he=>by
   obtain⟨y,hy,rfl⟩:=QR.1 he;obtain⟨i,hi⟩:=List.getElem?_of_mem hy;have J:=(QC.1 hi).1;have hv:=QD (show i<l.length from I▸J)
   exact one (hl _ (QF hv)) (h i _ y hv hi)
  rcases o.pp with f|⟨l,rfl,hl⟩
  .cases u with
   |qd l=>
    rcases f with f|⟨_,rfl,_⟩|⟨_,_,rfl,_⟩
    .have A:=g2.pp f;rw[zY6 A];exact A.cp
    .cases g2
    .cases g2
   |_=>exact one f g2
  .cases g2 with
   |refl=>exact tp hl rfl λi c c' h1 h2=>by rw[h1]at h2;cases h2;exact .refl _
   |qd I h=>exact tp hl I h
 have E:∀{i:Nat}{str:Bool}{F:JE},(i,HO.cells str F)∈n->∀c∈F.map (rnB d.mv),CP (d.mv+t.length) (d.m+(n.length-hm.length)) c:=λ{i str F} M c hc=>by
  obtain⟨c0,vM,rfl⟩:=QR.1 hc;obtain⟨ae,af,e',N⟩:=o.cells _ M;cases e';rcases N c0 vM with f|⟨j,rfl,S⟩
  .rw[zVg f];exact f.cp
  .exact .sym _ (by show d.mv+j<d.mv+t.length;omega)
 refine⟨_,_,_,g3,g2.ue,λe=>(by cases e),Y,⟨?_,?_,?_,?_⟩,λC hC=>?_,Qh e3 (Qq _ _)⟩
 .exact s1.fr.mono (Qq _ _) (Qq _ _)
 .intro p f;rcases QI.1 f with f|f
  .rcases zFW (hm:=_) ab o.keys (λp f=>let ⟨a,b,c,_⟩:=o.cells p f;⟨a,b,c⟩) f with⟨q1,_⟩|⟨i,str,F,ho,q1,M,R,q4⟩
   .obtain⟨str,F,e,N⟩:=s1.H p q1;exact⟨str,F,e,λc hc=>(N c hc).mono (Qq _ _) (Qq _ _)⟩
   .exact⟨str,_,R,E M⟩
  .obtain⟨i,str,F,q1,M,R,q4⟩:=zAB f;exact⟨str,_,q4,E R⟩
 .intro j vi S;rcases zC2 S with⟨j',rfl,B⟩|⟨_,B⟩
  .refine⟨?_,(L _ _ B).2⟩
   have:=(L _ _ B).1;show d.mv+j'<d.mv+t.length
   omega
  .have:=s1.V _ _ B;exact⟨QW this.1 (Qq _ _),this.2⟩
 .intro p f;rcases QI.1 f with f|f
  .have:p.1∈(zFy _ d.mv n d.H).keys:=List.mem_map_of_mem f;rw[zSt]at this;obtain⟨q,hq,e⟩:=QR.1 this;rw[←e];exact Nat.lt_add_right _ (s1.lt q hq)
  .obtain⟨i,str,F,q1,M,R,q4⟩:=zAB f;have W:i<n.length:=by
    have:i∈n.keys:=QR.2 ⟨_,R,rfl⟩;rw[o.keys,List.mem_range']at this;obtain⟨a,b,c⟩:=this;omega
   show p.1<d.m+(n.length-hm.length)
   omega
 .exact fin C (by rw[w,z];exact hC)
end
section
variable{β:Type}{P:Program}{U:Nat}{G:Cx}{tb:TbF}{th:TbH}{st:Sta}{r:β}
theorem zTY{th:TbH}{f:Nat}{e:FEnt}(h:zNG th f=some e):e∈th/\e.f=f:=by
 induction th with
 |nil=>cases h
 |cons s r a=>
  simp only[zNG]at h;split at h
  .rename_i q;cases h;exact⟨.head _,(zb q).symm⟩
  .exact⟨.tail _ (a h).1,(a h).2⟩
theorem zNI(w:TbW P G (tbS tb))(g:∀e∈th,FOK P G e)(m:GPP G){o:FOp}(a:zx o.o.op=true){k:AV->Sta->Option β}(s:CPS st)(h:zTv G tb th st o k=some r):∃v u p,Stp G tb st true k r (zB2 G (tbS tb) st (toT th o)) v u p:=by
 unfold zTv at h;unfold zB2 toT;split at h
 .rename_i n;simp only[n,Option.map_none];exact zS7 w m a s h
 .rename_i D n;simp only[n,Option.map_some];unfold zZh at h;unfold zPh;split at h
  .rename_i f args c;simp only[c];split at h
   .rename_i e j;obtain⟨q,A⟩:=zTY j;simp only[zNH,j,Option.map_some];split at h
    .rename_i z l;simp only[l];have b:args.all zG=true:=by rw[c]at a;simp only[zx,XO.qb,z7,QT]at a;exact a
     exact zSy (g e q) s (zFT m s.fr b l) h
    .cases h
   .cases h
  .rename_i B args c;simp only[c];have b:zG B=true/\args.all zG=true:=by rw[c]at a;simp only[zx,XO.qb,z7,List.all_append,QY,List.all_nil,QT,QA]at a;exact a
   split at h
   .rename_i E first y i;simp only[i];split at h
    .rename_i e j;obtain⟨q,A⟩:=zTY j;simp only[zNH,j,Option.map_some];split at h
     .rename_i z l;simp only[l];refine zSy (g e q) s (λx d=>?_) h
      have t:=zY m s.fr b.1 i;cases t with
      |func _ _ _ q1 C=>
       rcases QI.1 d with d|d
       .rcases QI.1 d with d|d
        .exact q1 x d
        .exact zFT m s.fr b.2 l x d
       .exact C x d
     .cases h
    .cases h
   .cases h
  .cases h
theorem CPS.skip(s:CPS st){d:Option Nat}:CPS (st.put d (.qd [])):=s.qv (.qd _ λe a=>by cases a)
theorem CPS.vO{st:Sta}(s:CPS st)(F:JV):CPS (vO F (zGh F st.H) st):=by
 have d:HCP st.mv st.m (zGh F st.H):=λp a=>s.H p (zEw a).1
 refine⟨λt u hu=>?_,λp a=>s.H p (zAL a).1,s.V,λp a=>s.lt p (zAL a).1⟩
 obtain⟨v,c,rfl⟩:=zLX hu;have hc:=s.fr t v c;unfold zTs;split
 .exact hc
 .split
  .rename_i e b;exact(zQm d 8 hc b).cp
  .exact hc
theorem zaE(j:TbW P G (tbS tb))(n:∀e∈th,FOK P G e)(x:GPP G){o:FOp}(f:zx o.o.op=true){k:AV->Sta->Option β}(s:CPS st)(h:zVZ G tb th st o k=some r):∃v u a,Stp G tb st true k r (zLD G (tbS tb) st (toT th o)) v u a:=by
 unfold zVZ at h;unfold zLD;cases l:zVX o.ks with
 |true=>
  have c:zVX (toT th o).ks=true:=l;rw[l]at h;rw[c];simp only at h⊢;obtain⟨v,u,a,q⟩:=zNI (o:=⟨o.o,o.ks.tail,o.h⟩) j n x f s.wy h;exact⟨v,u,a,q.k,q.uf,q.eq,q.cp,q.vv,q.w,q.le⟩
 |false=>
 have c:zVX (toT th o).ks=false:=l;rw[l]at h;rw[c];simp only at h⊢;have e:zTu (toT th o).h (toT th o).o.op=zTu o.h o.o.op:=by
  obtain⟨⟨d,op,g⟩,D,B⟩:=o;cases op<;>cases B<;>rfl
 rw[e];cases hf:zTu o.h o.o.op with
 |true=>
  rw[hf]at h;simp only at h⊢;have z:∀C,wop G (tbS tb) st o.o.op [] C->WXd st (xoS G zf st.fr st.H st.m o.o.op) C:=λC hc=>by
   cases ho:o.o.op<;>rw[ho]at hf hc<;>first|exact hc|cases hf
  have h:fop false G tb st o.o.op [] (λv st=>zbv st v k)=some r:=by
   cases ho:o.o.op<;>rw[ho]at hf h<;>first|exact h|cases hf
  obtain⟨v,u,a,q⟩:=zS7 j x f s h;have hu:=q.eq rfl;subst hu;have b:=q.k;unfold zbv at b;split at b
  .rename_i i;refine⟨_,_,_,b,.refl _,λ_=>rfl,q.vv.wD q.cp,q.vv.wy,λC t=>z _ (q.w _ ?_),q.le⟩
   unfold zTt;rw[i];exact t
  .rename_i i;simp only at b;split at b
   .rename_i y A;refine⟨y,y,_,b,.refl _,λ_=>rfl,(zQm (λp l=>q.vv.H p (zEw l).1) 8 q.cp A).cp,q.vv.vO _,λC t=>z _ (q.w _ ?_),q.le⟩
    unfold zTt;rw[i];simp only[A];exact t
   .cases b
 |false=>
  rw[hf]at h;simp only at h⊢;exact zNI j n x f s h
theorem zL1(l:TbW P G (tbS tb))(j:∀e∈th,FOK P G e)(A:GPP G):∀{ops:List FOp}{k:Sta->Option β}{st:Sta},(∀o∈ops,zx o.o.op=true)->CPS st->zOl G tb th ops k st=some r →
  ∃a,k a=some r/\CPS a/\∀C:Sta->Prop,C a->zEp G (tbS tb) (ops.map (toT th)) C st
 |[],k,st,_,s,h=>⟨st,h,s,λC d=>d⟩
 |o::ops,k,st,n,s,h=>by
  have g:∀z∈ops,zx z.o.op=true:=λz E=>n z (.tail _ E)
  have step:∀{st:Sta},CPS st->zVZ G tb th st o (λv st=>zOl G tb th ops k (st.put o.o.dst v))=some r->∃a,k a=some r/\CPS a/\∀C:Sta->Prop,C a->zLD G (tbS tb) st (toT th o) λv st=>∃B,WK v B/\zEp G (tbS tb) (ops.map (toT th)) C (st.put o.o.dst B):=λ{st} s h=>by
   obtain⟨v,u,D,q⟩:=zaE l j A (n o (.head _)) s h;obtain⟨a,h1,h2,h3⟩:=zL1 l j A g (q.vv.qv q.cp) q.k;exact⟨a,h1,h2,λC d=>q.w _ ⟨u,q.uf,h3 C d⟩⟩
  have skip:∀{st:Sta},CPS st->zOl G tb th ops k (st.put o.o.dst (.qd []))=some r->∃a,k a=some r/\CPS a/\∀C:Sta->Prop,C a->zEp G (tbS tb) (ops.map (toT th)) C (st.put o.o.dst (.qd [])):=λ{st} s h=>zL1 l j A g s.skip h
  simp only[zOl]at h;split at h
  .rename_i p;obtain⟨a,h1,h2,h3⟩:=step s h;refine⟨a,h1,h2,λC d=>?_⟩
   have f:(toT th o).o.guard=none:=p;simp only[QZ,zEp,f];exact h3 C d
  .rename_i t b p;have f:(toT th o).o.guard=some (t,b):=p;split at h
   .rename_i c hc;have h:=zK5 h;have y:=qt hc;simp only[y]at h;have x:(⟨st.fr,st.H,st.V,st.m,st.mv⟩:Sta)=st:=rfl;rw[x]at h;split at h
    .rename_i i;obtain⟨a,h1,h2,h3⟩:=step s h;refine⟨a,h1,h2,λC d=>?_⟩
     simp only[QZ,zEp,f,hc];unfold brT;have:=h3 C d;cases c<;>(simp only[Br,y,i];exact this)
    .rename_i i;obtain⟨a,h1,h2,h3⟩:=skip s h;refine⟨a,h1,h2,λC d=>?_⟩
     simp only[QZ,zEp,f,hc];unfold brT;have:=h3 C d;cases c<;>(simp only[Br,y,i];exact this)
   .rename_i hc;obtain⟨a,h1,h2,h3⟩:=skip s h;refine⟨a,h1,h2,λC d=>?_⟩
    simp only[QZ,zEp,f,hc];exact h3 C d
   .cases h
theorem zaF(g:TbW P G (tbS tb))(i:GPP G){o:XO}{c:List K}(b:zx o=true){k:AV->Sta->Option β}(s:CPS st)(h:zV1 G tb st o c k=some r):∃v a,k v a=some r/\CP a.mv a.m v/\CPS a/\∀C:AV->Sta->Prop,C v a->zCD G (tbS tb) st o c C:=by
 have p:CPS ⟨st.fr,st.H,[],st.m,st.mv⟩:=⟨s.fr,s.H,λj f h=>(by cases h),s.lt⟩
 have gen:fop false G tb ⟨st.fr,st.H,[],st.m,st.mv⟩ o c (λv a=>k v ⟨a.fr,a.H,st.V,a.m,a.mv⟩)=some r->∃v a,k v a=some r/\CP a.mv a.m v/\CPS a/\∀C:AV->Sta->Prop,C v a->wop G (tbS tb) ⟨st.fr,st.H,[],st.m,st.mv⟩ o c (λv a=>C v ⟨a.fr,a.H,st.V,a.m,a.mv⟩):=λh=>by
  obtain⟨v,u,a,q⟩:=zS7 g i b p h;have:=q.eq rfl;subst this;exact⟨u,_,q.k,q.cp,⟨q.vv.fr,q.vv.H,λj f l=>⟨QW (s.V j f l).1 q.le,(s.V j f l).2⟩,q.vv.lt⟩,λC d=>q.w _ d⟩
 cases o<;>first|(cases h;done)|exact gen h|skip
 case vF x=>
  simp only[zV1]at h;split at h
  .rename_i y;split at h
   .rename_i n hc;cases hb:zAr n with
    |none=>rw[hb]at h;cases h
    |some t=>
     rw[hb]at h;exact⟨.str t,st,h,.str _,s,λC d=>by simp only[zCD];unfold WXd;simp only[xoS,y,hc,hb];exact d⟩
   .cases h
  .cases h
 have h:FXd st (xoS G zf st.fr st.H st.m _) k=some r:=h;unfold FXd at h;split at h
 .rename_i v H m e;obtain⟨h1,h2⟩:=zPi (by rfl) b i s.fr s.H e
  obtain⟨h3,h4⟩:=zSs (by rfl) s.lt e
  exact⟨v,_,h,h1,⟨s.fr.mono (QB _) h4,h2,s.V,h3⟩,λC hc=>by simp only[zCD];unfold WXd;simp only[e];exact hc⟩
 .cases h
theorem zKt(i:TbW P G (tbS tb))(u:GPP G):∀{ops:List FOp}{k:Sta->Option β}{st:Sta},(∀o∈ops,zx o.o.op=true)->CPS st->zKs G tb ops k st=some r →
  ∃a,k a=some r/\CPS a/\∀C:Sta->Prop,C a->zCo G (tbS tb) (ops.map (toT th)) C st
 |[],k,st,_,s,h=>⟨st,h,s,λC d=>d⟩
 |o::ops,k,st,j,s,h=>by
  have f:∀q∈ops,zx q.o.op=true:=λq x=>j q (.tail _ x)
  have step:∀{st:Sta},CPS st->zV1 G tb st o.o.op o.ks (λv st=>zKs G tb ops k (st.put o.o.dst v))=some r->∃a,k a=some r/\CPS a/\∀C:Sta->Prop,C a->zCD G (tbS tb) st o.o.op o.ks λv st=>zCo G (tbS tb) (ops.map (toT th)) C (st.put o.o.dst v):=λ{st} s h=>by
   obtain⟨v,w,q1,A,y,z⟩:=zaF i u (j o (.head _)) s h;obtain⟨a,h1,h2,h3⟩:=zKt i u f (y.qv A) q1;exact⟨a,h1,h2,λC d=>z _ (h3 C d)⟩
  have skip:∀{st:Sta},CPS st->zKs G tb ops k (st.put o.o.dst (.qd []))=some r->∃a,k a=some r/\CPS a/\∀C:Sta->Prop,C a->zCo G (tbS tb) (ops.map (toT th)) C (st.put o.o.dst (.qd [])):=λ{st} s h=>zKt i u f s.skip h
  simp only[zKs]at h;split at h
  .rename_i l;obtain⟨a,h1,h2,h3⟩:=step s h;refine⟨a,h1,h2,λC d=>?_⟩
   have e:(toT th o).o.guard=none:=l;simp only[QZ,zCo,e];exact h3 C d
  .rename_i t b l;have e:(toT th o).o.guard=some (t,b):=l;split at h
   .rename_i c hc;have h:=zK5 h;have p:=qt hc;simp only[p]at h;have n:(⟨st.fr,st.H,st.V,st.m,st.mv⟩:Sta)=st:=rfl;rw[n]at h;split at h
    .rename_i g;obtain⟨a,h1,h2,h3⟩:=step s h;refine⟨a,h1,h2,λC d=>?_⟩
     simp only[QZ,zCo,e,hc];unfold brT;have:=h3 C d;cases c<;>(simp only[Br,p,g];exact this)
    .rename_i g;obtain⟨a,h1,h2,h3⟩:=skip s h;refine⟨a,h1,h2,λC d=>?_⟩
     simp only[QZ,zCo,e,hc];unfold brT;have:=h3 C d;cases c<;>(simp only[Br,p,g];exact this)
   .rename_i hc;obtain⟨a,h1,h2,h3⟩:=skip s h;refine⟨a,h1,h2,λC d=>?_⟩
    simp only[QZ,zCo,e,hc];exact h3 C d
   .cases h
theorem zNJ(o:FOp):clsQ (toT th o)=clsQ (toQ o):=by
 unfold clsQ toT toQ;cases o.h<;>rfl
theorem zSz:∀(ops:List FOp)(ds:List XD),zIq (ops.map (toT th)) ds=zIq (ops.map toQ) ds
 |[],_=>rfl
 |o::r,[]=>rfl
 |o::r,d::ds=>by
  simp only[QZ,zIq,zSz r ds];rfl
theorem zVp:∀(ops:List FOp)(ds:List XD)(i:Nat)(a b c:JV),zJW i a b c (ops.map (toT th)) ds=zJW i a b c (ops.map toQ) ds
 |[],_,_,_,_,_=>rfl
 |o::r,[],_,_,_,_=>rfl
 |o::r,d::ds,i,a,b,c=>by
  simp only[QZ,zJW,zVp r ds,zNJ]
theorem Heap.vl{h h':Nat}(a:h'≠h):∀{H:Heap}{o:HO},(H.put h o).get h'=H.get h'
 |[],o=>by
  simp only[Heap.put,Heap.get]
 |(k,x)::r,o=>by
  simp only[Heap.put];cases hk:Nat.beq k h with
  |true=>
   have:=zb hk;subst this;simp only[Heap.get];cases hb:Nat.beq k h' with
   |true=>exact absurd (zb hb).symm a
   |false=>rfl
  |false=>
   simp only[Heap.get];split
   .rfl
   .exact Heap.vl a
theorem zeo{lo:Option Nat}{st:Sta}(s:CPS st){o:FOp}(h:okQ lo G st o=true)(hc:clsQ (toT th o)=1):(∀g v,XV.t g∈o.o.op.qb->st.fr.get g=some v->CP st.mv (zCZ lo st.m) v)/\∀h str cs,h<zCZ lo st.m->st.H.get h=some (.cells str cs)->∀x∈cs,CP st.mv (zCZ lo st.m) x:=by
 rw[zNJ]at hc;unfold okQ at h;rw[hc]at h;simp only at h;cases lo with
 |none=>exact⟨λg v _ d=>s.fr g v d,λh str cs _ b x c=>by
   obtain⟨_,_,e,a⟩:=s.H.get b;cases e;exact a x c⟩
 |some l=>
  simp only[QA,QH]at h;refine⟨λg v b d=>?_,λi str cs f b x c=>?_⟩
  .have:=h.1 g (zEt b);rw[d]at this;exact(s.fr g v d).lt 12 this
  .obtain⟨_,_,e,a⟩:=s.H.get b;cases e;have h2:=zU4 h.2 (QW f (Nat.min_le_left _ _)) b;exact(a x c).lt 12 (QH.1 h2 x c)
theorem zaG(K:TbW P G (tbS tb))(M:∀e∈th,FOK P G e)(S:GPP G){o:FOp}(E:zx o.o.op=true){k:AV->Sta->Option β}(s:CPS st){lo:Option Nat}(j:okQ lo G st o=true)(h:zV0 G tb th st o k=some r):∃v u a,Stp G tb st true k r (zB2 G (tbS tb) st (toT th o)) v u a ∧
  (clsQ (toT th o)<=1->HV st a)/\(clsQ (toT th o)=2->a.V=st.V/\a.mv=st.mv/\st.m<=a.m/\∀h,h<zCZ lo st.m->a.H.get h=st.H.get h):=by
 unfold zV0 at h;split at h
 .rename_i hc;obtain⟨v,u,a,q⟩:=zNI K M S E s h;have p:=q.k;split at p
  rotate_left
  .cases p
  rename_i F;have F:=zb F;have hc:clsQ (toT th o)<=1:=by rw[zNJ];exact QM hc
  refine⟨v,u,a,⟨p,q.uf,q.eq,q.cp,q.vv,q.w,q.le⟩,λ_=>?_,λh2=>by omega⟩
  have i:(toT th o).h=none:=by
   cases A:(toT th o).h with
   |none=>rfl
   |some es=>unfold clsQ at hc;rw[A]at hc;simp at hc
  have b:=q.w (λ_ x=>x=a) rfl
  unfold zB2 at b;rw[i]at b;obtain⟨J,H,V,m,mv⟩:=st;by_cases h1:clsQ (toT th o)=1
  .have b:=zY9 (C':=λ_ x=>x=a/\HV ⟨J,H,V,m,mv⟩ x) (m2:=m) (ms:=m) S E ⟨λ_ _=>rfl,λh str cs A hg c aa=>by
    obtain⟨_,_,e,W⟩:=s.H.get hg;cases e;exact W c aa⟩ (λt v _ B=>s.fr t v B) (cls1 i h1) (λv B=>⟨B,rfl,rfl,rfl,rfl⟩) b
   obtain⟨_,_,rfl,D⟩:=zPt b;exact D
  .rcases cls0 i (by omega)with p|⟨p,⟨x,R,ag,e⟩|⟨len,R,z,ps,e⟩⟩
   .have b:=zY8 (C':=λ_ x=>x=a/\HV ⟨J,H,V,m,mv⟩ x) (H2:=H) (V2:=V) (m2:=m) (mv2:=mv) p.1 p.2 (λv x I=>by rw[I];exact F) (λv f B=>⟨B,rfl,rfl,rfl,rfl⟩) b
    obtain⟨_,_,rfl,D⟩:=zPt b;exact D
   .have b:wop G (tbS tb) ⟨J,H,V,m,mv⟩ (toT th o).o.op (toT th o).ks (λ_ x=>x=a):=b
    rw[e]at b;have b:=zZb (C:=λ_ x=>x=a) (C':=λ_ x=>x=a/\HV ⟨J,H,V,m,mv⟩ x) (H2:=H) (V2:=V) (m2:=m) (mv2:=mv) p (λv B=>⟨B,rfl,rfl,rfl,rfl⟩) b
    obtain⟨_,_,rfl,D⟩:=zPt b;exact D
   .have b:wop G (tbS tb) ⟨J,H,V,m,mv⟩ (toT th o).o.op (toT th o).ks (λ_ x=>x=a):=b
    rw[e]at b;have b:=zZa (C:=λ_ x=>x=a) (C':=λ_ x=>x=a/\HV ⟨J,H,V,m,mv⟩ x) (H2:=H) (V2:=V) (m2:=m) (mv2:=mv) p (λv B=>⟨B,rfl,rfl,rfl,rfl⟩) b
    obtain⟨_,_,rfl,D⟩:=zPt b;exact D
 .rename_i hc;obtain⟨v,u,a,q⟩:=zNI K M S E s h;have hc:¬clsQ (toT th o)<=1:=by
   rw[zNJ];intro L;rw[Nat.ble_eq_true_of_le L]at hc;cases hc
  refine⟨v,u,a,q,λh1=>absurd h1 hc,λh2=>?_⟩
  have i:(toT th o).h=none:=by
   cases A:(toT th o).h with
   |none=>rfl
   |some es=>unfold clsQ at h2;rw[A]at h2;simp at h2
  have b:=q.w (λ_ x=>x=a) rfl
  unfold zB2 at b;rw[i]at b;have fin:∀{o':XO},z8 o'=2->WXd st (xoS G zf st.fr st.H st.m o') (λ_ x=>x=a)->a.V=st.V/\a.mv=st.mv/\st.m<=a.m/\∀h,h<zCZ lo st.m->a.H.get h=st.H.get h:=λp b=>by
   unfold WXd at b;split at b
   .rename_i v' H' n e;subst b;obtain⟨ob,_,rfl,rfl⟩:=zU1 p e;refine⟨rfl,rfl,QV _,λh A=>?_⟩
    have:h≠st.m:=by have:=zck (lo:=lo) (m:=st.m);omega
    simp only[Heap.get];cases hb:Nat.beq st.m h with
    |true=>exact absurd (zb hb).symm this
    |false=>rfl
   .exact b.elim
  obtain⟨⟨d,op,g⟩,Y,A⟩:=o;have X:A=none:=by
   cases A with
   |none=>rfl
   |some _=>cases i
  subst X;simp only[clsQ,toT,Option.map_none]at h2;simp only[toT]at b;cases op<;>first|(simp[z8]at h2;done)|(simp only at h2;split at h2<;>cases h2;done)|exact fin (by rfl) b|exact fin (o':=.alloc _) rfl b|skip
  .cases Y with
   |nil=>cases h2
   |cons k0 Y=>
    cases k0 with
    |c u=>cases h2
    |_=>exact fin (o':=.qx _ _ _ _) rfl b
  .rename_i x y R _;simp only at h2;split at h2
   .cases h2
   .rename_i ab;have T:clsQ (toQ ⟨⟨d,.store x y R,g⟩,Y,none⟩)=2:=by
     unfold clsQ toQ;simp only[Option.map_none]
    have N:∃l h off,lo=some l/\x.ev G st.fr=some (.ptr h off)/\l<=h:=by
     unfold okQ at j;rw[T]at j;simp only at j;split at j
     .split at j
      .rename_i I;exact⟨_,_,_,rfl,I,QM j⟩
      .cases j
     .cases j
    obtain⟨l,h,off,rfl,I,L⟩:=N;simp only[wop,I]at b;unfold WXd at b;split at b
    .rename_i v' H' n e;subst b;simp only[xoS,I]at e;split at e
     .rename_i he _;cases he;split at e
      .split at e
       .split at e
        .cases e;refine⟨rfl,rfl,QB _,λh' A=>?_⟩
         have O:h'≠h:=by
          have:zCZ (some l) st.m<=l:=Nat.min_le_left _ _;omega
         exact Heap.vl O
        .cases e
       .cases e
      .cases e
     .cases e
    .exact b.elim
theorem zKu(D:TbW P G (tbS tb))(A:∀e∈th,FOK P G e)(O:GPP G){lo:Option Nat}:∀{ops:List FOp}{k:Sta->Option β}{st:Sta},(∀o∈ops,zx o.o.op=true)->CPS st->zJs lo G tb th ops k st=some r →
  ∃c:Nat->Sta,c 0=st/\ChQ G (tbS tb) lo (ops.map (toT th)) c/\CPS (c ops.length)/\k (c ops.length)=some r
 |[],k,st,_,s,h=>⟨λ_=>st,rfl,⟨λi t a=>(by cases a),λi t a=>(by cases a),λi t a=>(by cases a),λi _=>⟨s.fr,s.H⟩,λi t a=>(by cases a)⟩,s,h⟩
 |o::ops,k,st,I,s,h=>by
  have j:∀N∈ops,zx N.o.op=true:=λN S=>I N (.tail _ S)
  have B:okQ lo G st o=true:=by
   simp only[zJs]at h;split at h
   .assumption
   .cases h
  have l:∀{f:Nat->Sta},ChQ G (tbS tb) lo (ops.map (toT th)) f->zD1 G (tbS tb) st (toT th o) (λx=>x=f 0)->(clsQ (toT th o)<=1->HV st (f 0)) →
    (clsQ (toT th o)=2->(f 0).V=st.V/\(f 0).mv=st.mv/\st.m<=(f 0).m/\∀h,h<zCZ lo st.m->(f 0).H.get h=st.H.get h)->CPS (f ops.length)->k (f ops.length)=some r →
    ∃c:Nat->Sta,c 0=st/\ChQ G (tbS tb) lo ((o::ops).map (toT th)) c/\CPS (c (o::ops).length)/\k (c (o::ops).length)=some r:=λ{f} E h1 h2 h3 h4 T=>by
   refine⟨λn=>match n with
    |0=>st
    |n+1=>f n,rfl,⟨λi t a=>?_,λi t a=>?_,λi t a=>?_,λi hi=>?_,λi t a=>?_⟩,h4,T⟩
   .cases i with
    |zero=>cases a;exact h1
    |succ i=>exact E.st i t a
   .cases i with
    |zero=>cases a;exact h2
    |succ i=>exact E.hv i t a
   .cases i with
    |zero=>cases a;exact h3
    |succ i=>exact E.al i t a
   .cases i with
    |zero=>exact⟨s.fr,s.H⟩
    |succ i=>exact E.cp i (by simpa using hi)
   .cases i with
    |zero=>cases a;exact zeo s B
    |succ i=>exact E.rd i t a
  have step:zV0 G tb th st o (λv st=>zJs lo G tb th ops k (st.put o.o.dst v))=some r->(∀C:Sta->Prop,(zB2 G (tbS tb) st (toT th o) λv st=>∃R,WK v R/\C (st.put o.o.dst R))->zD1 G (tbS tb) st (toT th o) C) →
    ∃c:Nat->Sta,c 0=st/\ChQ G (tbS tb) lo ((o::ops).map (toT th)) c/\CPS (c (o::ops).length)/\k (c (o::ops).length)=some r:=λh M=>by
   obtain⟨v,u,F,q,q1,W⟩:=zaG D A O (I o (.head _)) s B h;obtain⟨f,z,h1,h2,h3⟩:=zKu D A O j (q.vv.qv q.cp) q.k;have e:∀{d:Option Nat},HV F (F.put d u):=λ{d}=>by cases d<;>exact⟨rfl,rfl,rfl,rfl⟩
   refine l h1 (M _ (q.w _ ⟨u,q.uf,z.symm⟩)) (λhc=>?_) (λhc=>?_) h2 h3
   .rw[z];exact(q1 hc).trans e
   .obtain⟨a1,a2,a3,a4⟩:=W hc;rw[z];have e:=e (d:=o.o.dst);rw[e.V,e.mv,e.m,e.H];exact⟨a1,a2,a3,a4⟩
  have skip:zJs lo G tb th ops k (st.put o.o.dst (.qd []))=some r->(∀C:Sta->Prop,C (st.put o.o.dst (.qd []))->zD1 G (tbS tb) st (toT th o) C) →
    ∃c:Nat->Sta,c 0=st/\ChQ G (tbS tb) lo ((o::ops).map (toT th)) c/\CPS (c (o::ops).length)/\k (c (o::ops).length)=some r:=λh M=>by
   obtain⟨f,z,h1,h2,h3⟩:=zKu D A O j s.skip h;have e:∀{d:Option Nat},HV st (st.put d (.qd [])):=λ{d}=>by cases d<;>exact⟨rfl,rfl,rfl,rfl⟩
   refine l h1 (M _ z.symm) (λhc=>?_) (λhc=>?_) h2 h3
   .rw[z];exact e
   .have e:=e (d:=o.o.dst);rw[z,e.V,e.mv,e.m,e.H];exact⟨rfl,rfl,QB _,λ_ _=>rfl⟩
  simp only[zJs,B]at h;split at h
  .rename_i J;refine step h λC y=>?_
   have g:(toT th o).o.guard=none:=J;simp only[zD1,g];exact y
  .rename_i t b J;have g:(toT th o).o.guard=some (t,b):=J;split at h
   .rename_i c hc;have h:=zK5 h;have L:=qt hc;simp only[L]at h;have K:(⟨st.fr,st.H,st.V,st.m,st.mv⟩:Sta)=st:=rfl;rw[K]at h;split at h
    .rename_i p;refine step h λC y=>?_
     simp only[zD1,g,hc];unfold brT;cases c<;>(simp only[Br,L,p];exact y)
    .rename_i p;refine skip h λC y=>?_
     simp only[zD1,g,hc];unfold brT;cases c<;>(simp only[Br,L,p];exact y)
   .rename_i hc;refine skip h λC y=>?_
    simp only[zD1,g,hc];exact y
   .cases h
def mkT(U:Nat)(G:Cx)(tb:TbF)(th:TbH)(r:β):FC->(JV->Ext->Sta->Option β)->TC
 |.skip,_=>.skip
 |.ret,_=>.ret
 |.exit i,_=>.exit i
 |.wC e,_=>.wC (e.map (toT th))
 |.draw h e g,_=>.draw h (e.map (toT th)) g
 |.qT e g,_=>.qT (e.map (toT th)) g
 |.seq a b,K=>.seq (mkT U G tb th r a λd=>zGm (K d) (FT U G tb th b (K d))) (mkT U G tb th r b K)
 |.cond c a b,K=>.cond c (mkT U G tb th r a K) (mkT U G tb th r b K)
 |.block i b,K=>.block i (mkT U G tb th r b λd=>zMZ i (K d))
 |.qF k b,K=>.qF k (mkT U G tb th r b λd=>match d with
   |n::d=>zGm (K d) (zH1 (FT U G tb th b) (K d) n)
   |[]=>λ_ _=>none)
 |.loop _ c b,K=>.loop c (λd f H V=>match d with
   |n::d=>CPS (mkW c f H V)/\zLZ (FT U G tb th b) c (K d) n f H V=some r
   |[]=>False) (mkT U G tb th r b λd=>match d with
   |n::d=>zUv c (K d) (zLZ (FT U G tb th b) c (K d) (n-1))
   |[]=>λ_ _=>none)
 |.wo _ c a b,K=>.wo c (λd f H V=>CPS (mkW c f H V)/\FT U G tb th b (K d) (mkW c f H V)=some r)
   (mkT U G tb th r a λd=>zGm (K d) (zP9 c λf H V=>FT U G tb th b (K d) (mkW c f H V))) (mkT U G tb th r b K)
def fcOK:FC->Bool
 |.wC c|.draw _ c _|.qT c _=>c.all λt=>zx t.o.op
 |.seq a b|.wo _ _ a b|.cond _ a b=>fcOK a&&fcOK b
 |.block _ b|.loop _ _ b|.qF _ b=>fcOK b
 |_=>true
def fcN(pn:JV):FC->Bool
 |.wC c|.qT c _=>c.all λt=>match t.o.dst with
  |some d=>!inN d pn
  |none=>true
 |.draw e c _=>(c.all λt=>match t.o.dst with
  |some d=>!inN d pn
  |none=>true)&&pn.all λt=>inN t e
 |.seq a b|.wo _ _ a b|.cond _ a b=>fcN pn a&&fcN pn b
 |.block _ b|.loop _ _ b|.qF _ b=>fcN pn b
 |_=>true
theorem zJC:∀{fc:FC}{K:JV->Ext->Sta->Option β},er (mkT U G tb th r fc K)=ef fc
 |.skip,_|.ret,_|.exit _,_=>rfl
 |.wC c,_=>by simp only[mkT,er,ef,List.map_map];rfl
 |.draw _ c _,_=>by simp only[mkT,er,ef,List.map_map];rfl
 |.qT c _,_=>by simp only[mkT,er,ef,List.map_map];rfl
 |.seq a b,_=>by simp only[mkT,er,ef,zJC]
 |.cond _ a b,_=>by simp only[mkT,er,ef,zJC]
 |.block _ b,_=>by simp only[mkT,er,ef,zJC]
 |.loop _ _ b,_=>by simp only[mkT,er,ef,zJC]
 |.qF _ b,_=>by simp only[mkT,er,ef,zJC]
 |.wo _ _ a b,_=>by simp only[mkT,er,ef,zJC]
theorem zJD:∀{fc:FC}{K:JV->Ext->Sta->Option β},zDu (mkT U G tb th r fc K)=fcOK fc
 |.skip,_|.ret,_|.exit _,_=>rfl
 |.wC c,_=>by simp only[mkT,zDu,fcOK,List.all_map];rfl
 |.draw _ c _,_=>by simp only[mkT,zDu,fcOK,List.all_map];rfl
 |.qT c _,_=>by simp only[mkT,zDu,fcOK,List.all_map];rfl
 |.seq a b,_=>by simp only[mkT,zDu,fcOK,zJD]
 |.cond _ a b,_=>by simp only[mkT,zDu,fcOK,zJD]
 |.block _ b,_=>by simp only[mkT,zDu,fcOK,zJD]
 |.loop _ _ b,_=>by simp only[mkT,zDu,fcOK,zJD]
 |.qF _ b,_=>by simp only[mkT,zDu,fcOK,zJD]
 |.wo _ _ a b,_=>by simp only[mkT,zDu,fcOK,zJD]
theorem zNK{pn:JV}:∀{fc:FC}{K:JV->Ext->Sta->Option β},tcN pn (mkT U G tb th r fc K)=fcN pn fc
 |.skip,_|.ret,_|.exit _,_=>rfl
 |.wC c,_=>by simp only[mkT,tcN,fcN,List.all_map];rfl
 |.draw _ c _,_=>by simp only[mkT,tcN,fcN,List.all_map];rfl
 |.qT c _,_=>by simp only[mkT,tcN,fcN,List.all_map];rfl
 |.seq a b,_=>by simp only[mkT,tcN,fcN,zNK]
 |.cond _ a b,_=>by simp only[mkT,tcN,fcN,zNK]
 |.block _ b,_=>by simp only[mkT,tcN,fcN,zNK]
 |.loop _ _ b,_=>by simp only[mkT,tcN,fcN,zNK]
 |.qF _ b,_=>by simp only[mkT,tcN,fcN,zNK]
 |.wo _ _ a b,_=>by simp only[mkT,tcN,fcN,zNK]
theorem zIv(c:∀e∈th,FOK P G e):∀{fc:FC}{K:JV->Ext->Sta->Option β},tcH (HOK P G) (mkT U G tb th r fc K)
 |.skip,_|.ret,_|.exit _,_=>trivial
 |.wC g,_=>by
  intro t i m d e l;obtain⟨o,_,rfl⟩:=QR.1 i;simp only[toT]at d;cases ho:o.h with
  |none=>rw[ho]at d;cases d
  |some p=>
   rw[ho,Option.map_some]at d;cases d;obtain⟨j,f,rfl⟩:=QR.1 l;exact(c j f).h
 |.draw _ g _,_=>trivial
 |.qT g _,_=>by
  intro t i m d e l;obtain⟨o,_,rfl⟩:=QR.1 i;simp only[toT]at d;cases ho:o.h with
  |none=>rw[ho]at d;cases d
  |some p=>
   rw[ho,Option.map_some]at d;cases d;obtain⟨j,f,rfl⟩:=QR.1 l;exact(c j f).h
 |.seq a b,_=>⟨zIv c,zIv c⟩
 |.cond _ a b,_=>⟨zIv c,zIv c⟩
 |.block _ b,_=>zIv (fc:=b) c
 |.loop _ _ b,_=>zIv (fc:=b) c
 |.qF _ b,_=>zIv (fc:=b) c
 |.wo _ _ a b,_=>⟨zIv c,zIv c⟩
theorem zGn(g:TbW P G (tbS tb))(l:∀e∈th,FOK P G e)(u:GPP G):∀{fc:FC}{K:JV->Ext->Sta->Option β}{gs:JV}{Q:Ext->Sta->Prop}{st:Sta},fcOK fc=true->CPS st->FT U G tb th fc (K gs) st=some r →
  (∀x m,CPS m->K gs x m=some r->Q x m)->WT G (tbS tb) (mkT U G tb th r fc K) gs Q st
 |.skip,K,gs,Q,st,_,s,h,f=>f _ _ s h
 |.ret,K,gs,Q,st,_,s,h,f=>f _ _ s h
 |.exit i,K,gs,Q,st,_,s,h,f=>f _ _ s h
 |.wC v,K,gs,Q,st,d,s,h,f=>by
  obtain⟨m,h1,h2,h3⟩:=zL1 g l u (λo A=>QH.1 d o A) s h
  exact h3 _ (f _ _ h2 h1)
 |.draw S v L,K,gs,Q,st,d,s,h,f=>by
  simp only[FT]at h;split at h
  .rename_i hd;obtain⟨m,h1,h2,h3⟩:=zKt (th:=th) g u (λo A=>QH.1 d o A) s h
   have e:(v.map (toT th)).map TOp.o=v.map FOp.o:=by rw[List.map_map];rfl
   simp only[mkT,WT,e,hd];exact h3 _ (f _ _ h2 h1)
  .cases h
 |.qT v L,K,gs,Q,st,d,s,h,f=>by
  simp only[FT]at h;split at h
  .rename_i hd;obtain⟨c,I,h1,h2,h3⟩:=zKu g l u (λo A=>QH.1 d o A) s h
   simp only[mkT,WT];refine⟨by rw[zSz,zVp];exact hd,_,c,I,h1,?_⟩
   rw[QG];exact f _ _ h2 h3
  .cases h
 |.seq a b,K,gs,Q,st,d,s,h,f=>by
  simp only[fcOK,QA]at d;refine zGn g l u (fc:=a) (K:=λgs=>zGm (K gs) (FT U G tb th b (K gs))) d.1 s h λx m q p=>?_
  cases x with
  |normal=>exact zGn g l u d.2 q p f
  |exit i=>exact f _ _ q p
  |ret=>exact f _ _ q p
 |.cond c a b,K,gs,Q,st,d,s,h,f=>by
  simp only[fcOK,QA]at d;simp only[FT]at h;simp only[mkT,WT];split at h
  .rename_i D w;rw[w];split at h
   .rename_i n;have h:=zK5 h;have B:st.fr.get n=some (.bool D):=w;have C:=qt B;simp only[C]at h;unfold brT;cases D with
    |true=>simp only[Br,C];exact zGn g l u d.1 s h f
    |false=>simp only[Br,C];exact zGn g l u d.2 s h f
   .rename_i y;rcases zM0 h with⟨rfl,h⟩|⟨rfl,h⟩
    .cases c with
     |t n=>exact absurd rfl (y n)
     |_=>exact zGn g l u d.1 s h f
    .cases c with
     |t n=>exact absurd rfl (y n)
     |_=>exact zGn g l u d.2 s h f
  .cases h
 |.block i b,K,gs,Q,st,d,s,h,f=>by
  refine zGn g l u (fc:=b) (K:=λgs=>zMZ i (K gs)) d s h λx m q p=>?_
  cases x with
  |normal=>exact f _ _ q p
  |ret=>exact f _ _ q p
  |exit j=>
   simp only[zMZ]at p;simp only[zU3];split at p
   .rename_i e;simp only[e];exact f _ _ q p
   .rename_i e;simp only[e];exact f _ _ q p
 |.qF k b,K,gs,Q,st,d,s,h,f=>by
  have key:∀(n:Nat)(st:Sta),CPS st->zH1 (FT U G tb th b) (K gs) n st=some r->zQk (λn Q st=>WT G (tbS tb) (mkT U G tb th r b λgs=>match gs with
    |n::gs=>zGm (K gs) (zH1 (FT U G tb th b) (K gs) n)
    |[]=>λ_ _=>none) (n::gs) Q st) Q n st:=by
   intro n
   induction n with
   |zero=>intro st _ h;cases h
   |succ n O=>
    intro st s h;refine zGn g l u (fc:=b) (K:=λgs=>match gs with
     |n::gs=>zGm (K gs) (zH1 (FT U G tb th b) (K gs) n)
     |[]=>λ_ _=>none) (gs:=n::gs) d s h λx m q p=>?_
    cases x with
    |normal=>exact O m q p
    |exit i=>exact f _ _ q p
    |ret=>exact f _ _ q p
  exact key k st s h
 |.loop id c b,K,gs,Q,st,d,s,h,f=>by
  obtain⟨z,H,V,h1,h2,h3⟩:=zH3 s h;refine⟨⟨U,h3 _ ⟨h2,h1⟩⟩,?_⟩
  rintro n z H V ⟨s1,hl⟩
  cases n with
  |zero=>cases hl
  |succ n=>
   refine zGn g l u (fc:=b) (K:=λgs=>match gs with
    |n::gs=>zUv c (K gs) (zLZ (FT U G tb th b) c (K gs) (n-1))
    |[]=>λ_ _=>none) (gs:=(n+1)::gs) d s1 hl λx m q p=>?_
   cases x with
   |normal=>
    obtain⟨M,T,R,F,N,J⟩:=zH3 q p;exact⟨n,QS n,J _ ⟨N,F⟩⟩
   |exit i=>exact f _ _ q p
   |ret=>exact f _ _ q p
 |.wo id c a b,K,gs,Q,st,d,s,h,f=>by
  simp only[fcOK,QA]at d;refine⟨zGn g l u (fc:=a) (K:=λgs=>zGm (K gs) (zP9 c λz H V=>FT U G tb th b (K gs) (mkW c z H V))) d.1 s h λx m q p=>?_,λz H V E=>zGn g l u d.2 E.1 E.2 f⟩
  cases x with
  |normal=>
   obtain⟨z,H,V,h1,h2,h3⟩:=zH3 q p;exact h3 _ ⟨h2,h1⟩
  |exit i=>exact f _ _ q p
  |ret=>exact f _ _ q p
theorem zBL(g:TbW P G (tbS tb))(l:∀e∈th,FOK P G e)(q:GPP G):∀{fc:FC}{K:Ext->Sta->Option β}{st:Sta},fcOK fc=true->CPS st->FT U G tb th fc K st=some r->∃x f,CPS f/\K x f=some r
 |.skip,K,st,_,s,h=>⟨_,_,s,h⟩
 |.ret,K,st,_,s,h=>⟨_,_,s,h⟩
 |.exit i,K,st,_,s,h=>⟨_,_,s,h⟩
 |.wC v,K,st,d,s,h=>by
  obtain⟨f,h1,h2,h3⟩:=zL1 g l q (λo u=>QH.1 d o u) s h
  exact⟨_,_,h2,h1⟩
 |.draw L v C,K,st,d,s,h=>by
  simp only[FT]at h;split at h
  .obtain⟨f,h1,h2,h3⟩:=zKt (th:=th) g q (λo u=>QH.1 d o u) s h
   exact⟨_,_,h2,h1⟩
  .cases h
 |.qT v C,K,st,d,s,h=>by
  simp only[FT]at h;split at h
  .obtain⟨c,J,h1,h2,h3⟩:=zKu (th:=th) g l q (λo u=>QH.1 d o u) s h
   exact⟨_,_,h2,h3⟩
  .cases h
 |.seq a b,K,st,d,s,h=>by
  simp only[fcOK,QA]at d;obtain⟨x,f,p,m⟩:=zBL g l q (fc:=a) d.1 s h;cases x with
  |normal=>exact zBL g l q d.2 p m
  |exit i=>exact⟨_,_,p,m⟩
  |ret=>exact⟨_,_,p,m⟩
 |.cond c a b,K,st,d,s,h=>by
  simp only[fcOK,QA]at d;simp only[FT]at h;split at h
  .rename_i A w;split at h
   .rename_i n;have h:=zK5 h;have D:=qt (show st.fr.get n=some (.bool A)from w)
    simp only[D]at h;cases A with
    |true=>exact zBL g l q d.1 s h
    |false=>exact zBL g l q d.2 s h
   .rcases zM0 h with⟨_,h⟩|⟨_,h⟩
    .exact zBL g l q d.1 s h
    .exact zBL g l q d.2 s h
  .cases h
 |.block i b,K,st,d,s,h=>by
  obtain⟨x,f,p,m⟩:=zBL g l q (fc:=b) d s h;cases x with
  |normal=>exact⟨_,_,p,m⟩
  |ret=>exact⟨_,_,p,m⟩
  |exit j=>
   simp only[zMZ]at m;split at m
   .exact⟨_,_,p,m⟩
   .exact⟨_,_,p,m⟩
 |.qF k b,K,st,d,s,h=>by
  have key:∀(n:Nat)(st:Sta),CPS st->zH1 (FT U G tb th b) K n st=some r->∃x f,CPS f/\K x f=some r:=by
   intro n
   induction n with
   |zero=>intro st _ h;cases h
   |succ n z=>
    intro st s h;obtain⟨x,f,p,m⟩:=zBL g l q (fc:=b) d s h;cases x with
    |normal=>exact z f p m
    |exit i=>exact⟨_,_,p,m⟩
    |ret=>exact⟨_,_,p,m⟩
  exact key k st s h
 |.loop id c b,K,st,d,s,h=>by
  obtain⟨t,H,V,h1,h2,_⟩:=zH3 s h;have key:∀(n:Nat) t H V,CPS (mkW c t H V)->zLZ (FT U G tb th b) c K n t H V=some r->∃x f,CPS f/\K x f=some r:=by
   intro n
   induction n with
   |zero=>intro t H V _ h;cases h
   |succ n z=>
    intro t H V s h;obtain⟨x,f,p,m⟩:=zBL g l q (fc:=b) d s h;cases x with
    |normal=>
     obtain⟨y,I,E,B,F,_⟩:=zH3 p m;exact z y I E F B
    |exit i=>exact⟨_,_,p,m⟩
    |ret=>exact⟨_,_,p,m⟩
  exact key _ t H V h2 h1
 |.wo id c a b,K,st,d,s,h=>by
  simp only[fcOK,QA]at d;obtain⟨x,f,p,m⟩:=zBL g l q (fc:=a) d.1 s h;cases x with
  |normal=>
   obtain⟨t,H,V,h1,h2,_⟩:=zH3 p m;exact zBL g l q d.2 h2 h1
  |exit i=>exact⟨_,_,p,m⟩
  |ret=>exact⟨_,_,p,m⟩
end
structure FFn where
 np:Nat
 nt:Nat
 fc:FC
 res:List XR
 gr:JN:=[]
def zUx(gr:JN)(a:List XR)(pn:JV)(x:Ext)(st:Sta):Option (AV×Heap×Vecs):=zTw a pn x (zDk gr st)
def FFn.xf(x:FFn):XF:=⟨x.np,x.nt,ef x.fc,x.res⟩
def zbx(U:Nat)(G:Cx)(tb:TbF)(th:TbH)(x:FFn)(args:JE):JF:=match Nat.beq args.length x.np with
 |true=>FT U G tb th x.fc (zYk x.res) ⟨qI 0 args,[],[],0,0⟩
 |false=>none
def zYl(U:Nat)(G:Cx)(tb:TbF)(th:TbH)(x:FFn)(pn:JV)(args:JE)(H:Heap)(V:Vecs):Option (AV×Heap×Vecs):=match Nat.beq args.length x.np&&zJl (qI 0 args) 0 pn&&Nat.beq pn.length H.length with
 |true=>FT U G tb th x.fc (zUx x.gr x.res pn) ⟨qI 0 args,H,V,H.length,V.length⟩
 |false=>none
section
variable{P:Program}{U:Nat}{G:Cx}{tb:TbF}{th:TbH}{st:Sta}
theorem FnX.enters{P:Program}{f:Nat}{g:XF}(hx:FnX P f g):Enters P f:=by
 obtain⟨fn,e,b,a⟩:=hx.ok;unfold compF at b;obtain⟨d,c,b⟩:=za b;exact⟨fn,d,e,c,a⟩
theorem zcz(s:CPS st):∀(d:Nat){v v':AV},CP st.mv st.m v->zBm st.H st.V d v=some v'->PP v':=by
 intro d
 induction d with
 |zero=>intro v v' _ h;cases h
 |succ d w=>
  intro v v' hc h;have al:∀{l z:JE},(∀e∈l,CP st.mv st.m e)->zC (zBm st.H st.V d) l=some z->∀e∈z,PP e:=λC E=>by
   obtain⟨m1,m2⟩:=zA1 E;intro x D;obtain⟨i,hi⟩:=List.getElem?_of_mem D;have n:=(QC.1 hi).1;have y:=QD (show i<_ from m1▸n)
   exact w (C _ (QF y)) (m2 i _ x y hi)
  cases hc with
  |sym j N=>
   simp only[zBm]at h;split at h
   .rename_i I;cases h;exact .qf _ _ (s.V _ _ I).2
   .cases h
  |agg B g=>
   simp only[zBm]at h;split at h
   .rename_i c;cases h;exact .agg _ (al g c)
   .cases h
  |qd B g=>
   simp only[zBm]at h;split at h
   .rename_i c;cases h;exact .qd _ (al g c)
   .cases h
  |ptr L off J=>
   simp only[zBm]at h;split at h
   .rename_i A;obtain⟨_,_,e,o⟩:=s.H.get A;cases e;split at h
    .rename_i c;cases h;exact .qc _ _ (.agg _ (al o c))
    .cases h
   .cases h
  |iface t u hu=>
   simp only[zBm]at h;split at h
   .rename_i c;cases h;exact .iface _ _ (w hu c)
   .cases h
  |func f a b F hb=>
   simp only[zBm]at h;split at h
   .rename_i h1;split at h
    .rename_i h2;cases h;exact .func _ _ _ (al F h1) (al hb h2)
    .cases h
   .cases h
  |bool b=>cases h;exact .bool _
  |int q m=>cases h;exact .int _ _
  |str s=>cases h;exact .str _
  |qo=>cases h;exact .qo
  |qa=>cases h;exact .qa
  |qn=>cases h;exact .qn
  |ql=>cases h;exact .ql
  |qe=>cases h;exact .qe
  |qc e off p=>cases h;exact .qc _ _ p
  |qf K M p=>cases h;exact .qf _ _ p
  |_=>cases h
theorem zPy(s:CPS st){rs:List XR}{vs:JE}(h:zG3 st.H st.fr rs=some vs):CP st.mv st.m (zBG vs):=zRq (zS6 s.fr s.H h)
theorem zTZ{a:List XR}{x:Ext}{v:AV}(s:CPS st)(h:zYk a x st=some v):PP v/\zP8 a (λu=>u=v) x st:=by
 have key:∀{x:Ext},(∀i,x≠.exit i)->(match zG3 st.H st.fr a with|some c=>zBm st.H st.V 8 (zBG c)|none=>none)=some v->PP v/\zP8 a (λu=>u=v) x st:=λ{x} d h=>by
  split at h
  .rename_i c b;refine⟨zcz s 8 (zPy s b) h,?_⟩
   unfold zP8 zP7;cases x with
   |exit i=>exact absurd rfl (d i)
   |normal=>simp only[b,h]
   |ret=>simp only[b,h]
  .cases h
 cases x with
 |exit i=>cases h
 |normal=>exact key (λi e=>by cases e) h
 |ret=>exact key (λi e=>by cases e) h
theorem zcA{f:Nat}{x:FFn}(hx:FnX P f x.xf)(c:fcOK x.fc=true)(s:GPP G)(hm:zAZ P G)(i:P.follows .mixedOrders=true)(d:TbW P G (tbS tb))(b:∀e∈th,FOK P G e){args:JE}{v:AV}(g:∀a∈args,PP a)(h:zbx U G tb th x args=some v):
  Enters P f/\PP v/\∀H nx,FnT P G f args H nx v H nx:=by
 unfold zbx at h;split at h
 rotate_left
 .cases h
 rename_i l;have t:CPS ⟨qI 0 args,[],[],0,0⟩:=⟨zK4 λa z=>(g a z).cp,λp g=>(by cases g),λj A h=>(by cases h),λp g=>(by cases g)⟩
 obtain⟨y,o,m,n⟩:=zBL d b s c t h;have q:=(zTZ m n).1;have w:=zGn d b s (K:=λ_=>zYk x.res) (gs:=[]) (Q:=zP8 x.res λu=>u=v) c t h λy o m n=>(zTZ m n).2
 obtain⟨h1,h2⟩:=zfd hx zJC.symm (by rw[zJD];exact c) s hm i d (zIv b) (zb l) g w
 exact⟨h1,q,h2⟩
theorem zT0{n:Nat}:∀{H:Heap},zRS n H=true->∀p∈H,∃str cs,p.2=.cells str cs/\∀c∈cs,zSx n c=true
 |[],h,p,a=>by cases a
 |(k,o)::H,h,p,a=>by
  cases o with
  |cells str cs=>
   simp only[zRS,QA]at h;rcases QJ.1 a with rfl|a
   .exact⟨str,cs,rfl,λc hc=>QH.1 h.1 c hc⟩
   .exact zT0 h.2 p a
  |_=>cases h
theorem zT1:∀{V:Vecs},zRT V=true->∀j vi,V.get j=some vi->vi.qA=true
 |[],h,j,vi,e=>by cases e
 |(k,o)::r,h,j,vi,e=>by
  simp only[zRT,QA]at h;rw[Vecs.qi]at e;split at e
  .cases e;exact h.1
  .exact zT1 h.2 j vi e
theorem zSA{n k m a:Nat}{c:AV}(hc:CP m a c)(h:zUw n k c=true):OP1 n k c:=by
 unfold zUw at h;split at h
 .rename_i i o;exact .inr (.inr ⟨i,o,rfl,by simpa[Qi]using h⟩)
 .unfold zSx at h;split at h
  .rename_i j _;exact .inr (.inl ⟨j,rfl,by simpa[Qi]using h⟩)
  .exact .inl (zCv 12 hc h)
theorem zZl{n k m b:Nat}{v:AV}(hc:CP m b v)(h:zbw n k v=true):OPV n k v:=by
 unfold zbw at h;split at h
 .rename_i l;refine .inr ⟨l,rfl,λu hu=>?_⟩
  cases hc with
  |qd _ a=>exact zSA (a u hu) (QH.1 h u hu)
 .exact .inl (zSA hc h)
theorem zPz{b:List XR}{pn:JV}{x:Ext}{v:AV}{H2:Heap}{V2:Vecs}(s:CPS st)(h:zTw b pn x st=some (v,H2,V2)):
  OPV V2.length H2.length v/\CPW H2 V2/\(H2.keys=List.range' 0 H2.length/\pn.length<=H2.length)/\zRS V2.length H2=true/\zRT V2=true/\zOk b pn (λu H' n=>u=v/\H'=H2/\n=V2) x st:=by
 have key:∀{x:Ext},(∀i,x≠.exit i)->zTw b pn x st=some (v,H2,V2)->OPV V2.length H2.length v/\CPW H2 V2/\(H2.keys=List.range' 0 H2.length/\pn.length<=H2.length)/\zRS V2.length H2=true/\zRT V2=true/\zOk b pn (λu H' n=>u=v/\H'=H2/\n=V2) x st:=by
  intro x w h;have D:zTw b pn x st=zTw b pn .ret st:=by cases x with|exit i=>exact absurd rfl (w i)|_=>rfl
  have A:∀R,zOk b pn R x st=zOk b pn R .ret st:=λR=>by cases x with|exit i=>exact absurd rfl (w i)|_=>rfl
  rw[D]at h;rw[A];unfold zTw at h;unfold zOk zP7;simp only at h⊢;split at h
  .rename_i E d;simp only[d];split at h
   .rename_i f;simp only[f];split at h
    .rename_i hb;obtain⟨C,H,V,c,y,z,t,g,B,m,l⟩:=zIu s (λv q=>by cases q) h
     split at c
     .rename_i a;simp only[QA]at a;simp only[QK,Prod.mk.injEq]at c;obtain⟨rfl,rfl,rfl⟩:=c;have p:=hb;simp only[Bool.or_eq_false_iff]at hb;refine⟨.inl<|.inl (zKL 8 (zPy s d) hb.1),t,⟨by rw[m,g],by rw[g,List.length_range];exact QB _⟩,a.1,a.2,?_⟩
      simp only[p];exact l _ ⟨trivial,rfl,rfl⟩
     .cases c
    .cases h
   .rename_i f;simp only[f];split at h
    .rename_i j;simp only[j];obtain⟨C,H,V,c,y,z,t,g,B,m,l⟩:=zIu s (λv q=>by rw[QU.1 q];exact zPy s d) h
     split at c
     .rename_i u;split at c
      .rename_i a;simp only[QA]at a;simp only[QK,Prod.mk.injEq]at c;obtain⟨rfl,rfl,rfl⟩:=c;have o:=y u (.head _);refine⟨zZl o a.1,t,⟨by rw[m,g],by rw[g,QE,List.length_range];exact Qq _ _⟩,a.2.1,a.2.2,l _ ⟨rfl,rfl,rfl⟩⟩
      .cases c
     .cases c
    .cases h
  .cases h
 cases x with
 |exit i=>cases h
 |normal=>exact key (λi e=>by cases e) h
 |ret=>exact key (λi e=>by cases e) h
theorem zcB{f:Nat}{x:FFn}{i:JN}{pn:JV}(hx:FnX P f x.xf)(d:fcOK x.fc=true)(o:(fcN pn x.fc&&!inpl i)=true)(C:GPP G)(hm:zAZ P G)(l:P.follows .mixedOrders=true)(g:TbW P G (tbS tb))(b:∀e∈th,FOK P G e){ds:List D}:FOK P G ⟨f,i,zYl U G tb th x pn,ds⟩:=by
 have start:∀{args:JE}{H:Heap}{V:Vecs}{v:AV}{A:Heap}{q:Vecs},(∀a∈args,CP V.length H.length a)->CPW H V->zYl U G tb th x pn args H V=some (v,A,q)->args.length=x.np/\zJl (qI 0 args) 0 pn=true/\pn.length=H.length/\CPS ⟨qI 0 args,H,V,H.length,V.length⟩/\FT U G tb th x.fc (zUx x.gr x.res pn) ⟨qI 0 args,H,V,H.length,V.length⟩=some (v,A,q):=λhc s h=>by
  unfold zYl at h;split at h
  .rename_i hb;simp only[QA]at hb;exact⟨zb hb.1.1,hb.1.2,zb hb.2,s.mk' (zK4 hc),h⟩
  .cases h
 rw[QA,Bool.not_eq_true']at o;obtain⟨L,I⟩:=o;refine⟨HOK.of I hx.enters λargs H V v A q z N=>?_,λargs H V v A q hc s Y N=>?_⟩
 .obtain⟨hc,s,Y⟩:=z;obtain⟨X,T,M,B,h⟩:=start hc s N;obtain⟨y,w,m,t⟩:=zBL g b C d B h;obtain⟨q1,O,S,q4,q5,_⟩:=zPz (zBW m) t;refine⟨⟨q1,S.1,by rw[←M];exact S.2,λp W=>?_,zT1 q5⟩,?_⟩
  .obtain⟨str,cs,e,J⟩:=zT0 q4 p W;refine⟨str,cs,e,λc n=>?_⟩
   have h1:=J c n;obtain⟨_,_,R,E⟩:=O.H p W;rw[e]at R;cases R;unfold zSx at h1;split at h1
   .rename_i j;exact .inr ⟨j,rfl,by simpa[Qi]using h1⟩
   .exact .inl (zCv 12 (E c n) h1)
  .have F:=zGn g b C (K:=λ_=>zUx x.gr x.res pn) (gs:=[]) (Q:=zXC x.gr x.res pn (λu H' V'=>u=v/\H'=A/\V'=q)) d B h λy w m t=>(zPz (zBW m) t).2.2.2.2.2
   exact(zen hx zJC.symm (by rw[zJD];exact d) C hm l g (zIv b) (by rw[zNK];exact L) X M T F).2
 .obtain⟨X,T,M,B,h⟩:=start hc s N;obtain⟨y,w,m,t⟩:=zBL g b C d B h;obtain⟨q1,O,_⟩:=zPz (zBW m) t;exact λj vi hj=>O.V j vi hj
structure HFun where
 f:Nat
 grow:JN
 pn:JV
 x:FFn
 ds:List D
structure Grp where
 vs:List (Nat×FFn)
 hs:List HFun
abbrev RV:=Nat->JE->JF
abbrev RH:=Nat->JE->Heap->Vecs->Option (AV×Heap×Vecs)
def tbV(g:List (Nat×FFn))(r:RV)(tb:TbF):TbF:=match g with
 |[]=>tb
 |p::g=>(p.1,r p.1)::tbV g r tb
def tbO(g:List HFun)(r:RH)(th:TbH):TbH:=match g with
 |[]=>th
 |p::g=>⟨p.f,p.grow,r p.f,p.ds⟩::tbO g r th
def zUy(U:Nat)(G:Cx)(tb:TbF)(th:TbH):List (Nat×FFn)->RV
 |[],_=>λ_=>none
 |p::g,f=>match Nat.beq f p.1 with
  |true=>zbx U G tb th p.2
  |false=>zUy U G tb th g f
def zUz(U:Nat)(G:Cx)(tb:TbF)(th:TbH):List HFun->RH
 |[],_=>λ_ _ _=>none
 |p::g,f=>match Nat.beq f p.f with
  |true=>zYl U G tb th p.x p.pn
  |false=>zUz U G tb th g f
def recG(U:Nat)(G:Cx)(tb:TbF)(th:TbH)(g:Grp):Nat->RV×RH
 |0=>(λ_ _=>none,λ_ _ _ _=>none)
 |n+1=>(zUy U G (tbV g.vs (recG U G tb th g n).1 tb) (tbO g.hs (recG U G tb th g n).2 th) g.vs,zUz U G (tbV g.vs (recG U G tb th g n).1 tb) (tbO g.hs (recG U G tb th g n).2 th) g.hs)
def gv(U:Nat)(G:Cx)(tb:TbF)(th:TbH)(g:Grp)(n f:Nat):JE->JF:=(recG U G tb th g n).1 f
def go(U:Nat)(G:Cx)(tb:TbF)(th:TbH)(g:Grp)(n f:Nat):JE->Heap->Vecs->Option (AV×Heap×Vecs):=(recG U G tb th g n).2 f
structure GrpOK(P:Program)(g:Grp):Prop where
 vs:∀p∈g.vs,FnX P p.1 p.2.xf/\fcOK p.2.fc=true
 hs:∀p∈g.hs,FnX P p.f p.x.xf/\fcOK p.x.fc=true/\(fcN p.pn p.x.fc&&!inpl p.grow)=true
theorem zcC{g:Grp}(m:GrpOK P g)(C:GPP G)(hm:zAZ P G)(i:P.follows .mixedOrders=true)(B:TbW P G (tbS tb))(x:∀e∈th,FOK P G e):∀n,TbW P G (tbS (tbV g.vs (recG U G tb th g n).1 tb))/\∀e∈tbO g.hs (recG U G tb th g n).2 th,FOK P G e:=by
 have mk:∀{r:RV×RH},(∀p∈g.vs,∀args v,(∀a∈args,PP a)->r.1 p.1 args=some v->Enters P p.1/\PP v/\∀H o,FnT P G p.1 args H o v H o)->(∀p∈g.hs,FOK P G ⟨p.f,p.grow,r.2 p.f,p.ds⟩)->TbW P G (tbS (tbV g.vs r.1 tb))/\∀e∈tbO g.hs r.2 th,FOK P G e:=by
  intro r h1 h2
  constructor
  .have:∀(l:List (Nat×FFn)),(∀p∈l,p∈g.vs)->TbW P G (tbS (tbV l r.1 tb)):=by
    intro l
    induction l with
    |nil=>intro _;exact B
    |cons p l t=>
     intro d s u;simp only[tbV,tbS,QZ,QJ]at u;rcases u with rfl|u
     .exact λargs v b D=>h1 p (d p (.head _)) args v b D
     .exact t (λq c=>d q (.tail _ c)) s u
   exact this g.vs λp b=>b
  .have:∀(l:List HFun),(∀p∈l,p∈g.hs)->∀e∈tbO l r.2 th,FOK P G e:=by
    intro l
    induction l with
    |nil=>intro _;exact x
    |cons p l t=>
     intro d e w;simp only[tbO,QJ]at w;rcases w with rfl|w
     .exact h2 p (d p (.head _))
     .exact t (λq c=>d q (.tail _ c)) e w
   exact this g.hs λp b=>b
 intro n
 induction n with
 |zero=>
  refine mk (λp b args v _ h=>by cases h) λp b=>⟨⟨(m.hs p b).1.enters,λargs H V v A z _ h=>(by cases h)⟩,λargs H V v A z _ _ _ h=>(by cases h)⟩
 |succ n t=>
  obtain⟨i1,i2⟩:=t;refine mk (λp b args v y h=>?_) λp b=>?_
  .have:∀(l:List (Nat×FFn)),(∀q∈l,q∈g.vs)->zUy U G (tbV g.vs (recG U G tb th g n).1 tb) (tbO g.hs (recG U G tb th g n).2 th) l p.1 args=some v->Enters P p.1/\PP v/\∀H o,FnT P G p.1 args H o v H o:=by
    intro l
    induction l with
    |nil=>intro _ h;cases h
    |cons q l j=>
     intro d h;rw[zUy]at h;cases e:Nat.beq p.1 q.1 with
     |true=>
      rw[e]at h;have e:=zb e;obtain⟨a1,a2⟩:=m.vs q (d q (.head _));rw[e];exact zcA a1 a2 C hm i i1 i2 y h
     |false=>
      rw[e]at h;exact j (λq c=>d q (.tail _ c)) h
   exact this g.vs (λq c=>c) h
  .have:∀(l:List HFun),(∀q∈l,q∈g.hs)->FOK P G ⟨p.f,p.grow,zUz U G (tbV g.vs (recG U G tb th g n).1 tb) (tbO g.hs (recG U G tb th g n).2 th) l p.f,p.ds⟩:=by
    intro l
    induction l with
    |nil=>intro _;exact⟨⟨(m.hs p b).1.enters,λargs H V v A z _ h=>(by cases h)⟩,λargs H V v A z _ _ _ h=>(by cases h)⟩
    |cons q l j=>
     intro d;rw[zUz];cases e:Nat.beq p.f q.f with
     |true=>
      have e:=zb e;obtain⟨a1,a2,a3⟩:=m.hs q (d q (.head _));rw[e];have a4:=(m.hs p b).2.2;rw[QA]at a3 a4;exact zcB a1 a2 (by rw[QA];exact⟨a3.1,a4.2⟩) C hm i i1 i2
     |false=>exact j λq c=>d q (.tail _ c)
   exact this g.hs λq c=>c
def zYm(U:Nat)(G:Cx)(tb:TbF)(th:TbH)(g:Grp)(n:Nat):TbF:=tbV g.vs (gv U G tb th g n) tb
def zYn(U:Nat)(G:Cx)(tb:TbF)(th:TbH)(g:Grp)(n:Nat):TbH:=tbO g.hs (go U G tb th g n) th
structure TabOK(P:Program)(G:Cx)(tb:TbF)(th:TbH):Prop where
 v:TbW P G (tbS tb)
 o:∀e∈th,FOK P G e
theorem TabOK.nil:TabOK P G [] []:=⟨λs a=>(by cases a),λe b=>(by cases b)⟩
def zB4(P:Program)(G:Cx)(f:Nat)(g:JE->JF):Prop:=∀args v,(∀a∈args,PP a)->g args=some v->Enters P f/\PP v/\∀H b,FnT P G f args H b v H b
theorem TabOK.ext(h:TabOK P G tb th){f:Nat}{g:JE->JF}(b:zB4 P G f g):TabOK P G ((f,g)::tb) th:=⟨λs a=>by
 simp only[tbS,QZ,QJ]at a;rcases a with rfl|a
 .exact b
 .exact h.v s a,h.o⟩
theorem GrpOK.nil:GrpOK P ⟨[],[]⟩:=⟨λp a=>(by cases a),λp a=>(by cases a)⟩
theorem GrpOK.vT{f:Nat}{x:FFn}{vs:List (Nat×FFn)}{b:List HFun}(h1:FnX P f x.xf)(h2:fcOK x.fc=true)(h:GrpOK P ⟨vs,b⟩):GrpOK P ⟨(f,x)::vs,b⟩:=⟨λp a=>by
 rcases QJ.1 a with rfl|a
 .exact⟨h1,h2⟩
 .exact h.vs p a,h.hs⟩
theorem GrpOK.vg{x:HFun}{vs:List (Nat×FFn)}{b:List HFun}(h1:FnX P x.f x.x.xf)(h2:fcOK x.x.fc=true)(h3:(fcN x.pn x.x.fc&&!inpl x.grow)=true)(h:GrpOK P ⟨vs,b⟩):GrpOK P ⟨vs,x::b⟩:=⟨h.vs,λp a=>by
 rcases QJ.1 a with rfl|a
 .exact⟨h1,h2,h3⟩
 .exact h.hs p a⟩
theorem TabOK.add(h:TabOK P G tb th){g:Grp}(d:GrpOK P g)(e:GPP G)(hm:zAZ P G)(c:P.follows .mixedOrders=true)(n:Nat):TabOK P G (zYm U G tb th g n) (zYn U G tb th g n):=
 let ⟨a,b⟩:=zcC d e hm c h.v h.o n
 ⟨a,b⟩
end
inductive LA where
 |u (k:Nat)
 |c (id:Nat) (c:Cut)
 |q
 |d (pn:JV)
structure An where
 ka:List (Nat×List K)
 ha:List (Nat×List D)
 cv:Option (List D)
 sj:List (Nat×Nat×Cut)
 lp:List LA
def lkA{α:Type}:List (Nat×α)->Nat->Option α
 |[],_=>none
 |p::r,n=>match Nat.beq n p.1 with
  |true=>some p.2
  |false=>lkA r n
def zby(A:An)(o:XOper):FOp:=⟨o,match o.dst with
 |some d=>match lkA A.ka d with
  |some k=>k
  |none=>[]
 |none=>match o.op with
  |.store (.t a) _ _=>match lkA A.ka (10000+a)with
   |some k=>k
   |none=>[]
  |_=>[],match o.op with
 |.call f _=>match o.dst with
  |some d=>match lkA A.ha (7000000+d)with
   |some k=>some k
   |none=>lkA A.ha f
  |none=>lkA A.ha f
 |.qO _ _=>match o.dst with
  |some d=>match lkA A.ha (5000000+d)with
   |some k=>some k
   |none=>A.cv
  |none=>A.cv
 |.wh _ _ _=>lkA A.ha 1000000
 |.wM _|.box _ _=>match o.dst with
  |some d=>lkA A.ha (2000000+d)
  |none=>none
 |_=>none⟩
def zbz{α:Type}:List α->Nat->Option α
 |[],_=>none
 |a::_,0=>some a
 |_::r,n+1=>zbz r n
def an(A:An):XC->Nat->Nat->FC×Nat×Nat
 |.skip,s,l=>(.skip,s,l)
 |.ret,s,l=>(.ret,s,l)
 |.exit i,s,l=>(.exit i,s,l)
 |.wC e,s,l=>(.wC (e.map (zby A)),s,l)
 |.draw e h,s,l=>(match zbz A.lp l with
  |some (.d j)=>.draw j (e.map (zby A)) h
  |_=>.qT (e.map (zby A)) h,s,l+1)
 |.seq a b,s,l=>match an A a (s+1) l with
  |(a,s1,f)=>match an A b s1 f with
   |(b,s2,g)=>(match lkA A.sj s with
    |some (id,c)=>.wo id c a b
    |none=>.seq a b,s2,g)
 |.cond c a b,s,l=>match an A a s l with
  |(a,s1,f)=>match an A b s1 f with
   |(b,s2,g)=>(.cond c a b,s2,g)
 |.block i b,s,l=>match an A b s l with
  |(b,s1,f)=>(.block i b,s1,f)
 |.loop b,s,l=>match an A b s (l+1)with
  |(b,s1,f)=>(match zbz A.lp l with
   |some (.u k)=>.qF k b
   |some (.c id c)=>.loop id c b
   |_=>.skip,s1,f)
 |.w9 ..,s,l=>(.skip,s,l)
def mkX(P:Program)(fn:Func)(A:An):FFn:=match compF P fn with
 |some a=>⟨a.np,a.nt,(an A a.body 0 0).1,a.res,[]⟩
 |none=>⟨0,0,.skip,[],[]⟩
def zgp(P:Program)(fn:Func)(gr:JN)(A:An):FFn:=match compF P fn with
 |some a=>⟨a.np,a.nt,(an A a.body 0 0).1,a.res,gr⟩
 |none=>⟨0,0,.skip,[],[]⟩
structure Tb(P:Program)(G:Cx) where
 T:Nat->TbF
 O:Nat->TbH
 T0:Nat->TbF
 O0:Nat->TbH
 g:Grp
 ok:∀U,TabOK P G (T U) (O U)
variable{P:Program}{G:Cx}
def Tb.nil:Tb P G:=⟨λ_=>[],λ_=>[],λ_=>[],λ_=>[],⟨[],[]⟩,λ_=>TabOK.nil⟩
def Tb.add(t:Tb P G)(r:Bool)(g:Grp)(b:GrpOK P g)(c:GPP G)(hm:zAZ P G)(a:P.follows .mixedOrders=true):Tb P G:=
 ⟨λU=>zYm U G (t.T U) (t.O U) g (match r with|true=>U|false=>1),λU=>zYn U G (t.T U) (t.O U) g (match r with|true=>U|false=>1),t.T,t.O,g,λU=>(t.ok U).add b c hm a _⟩
def Tb.ext(t:Tb P G){f:Nat}{g:JE->JF}(a:zB4 P G f g):Tb P G:=
 ⟨λU=>(f,g)::t.T U,t.O,t.T,t.O,⟨[],[]⟩,λU=>(t.ok U).ext a⟩
noncomputable def gV(t:Tb P G)(n f:Nat):JE->JF:=gv FUEL G (t.T0 FUEL) (t.O0 FUEL) t.g n f
noncomputable def gO(t:Tb P G)(n f:Nat):JE->Heap->Vecs->Option (AV×Heap×Vecs):=go FUEL G (t.T0 FUEL) (t.O0 FUEL) t.g n f
noncomputable def fV(t:Tb P G)(d id:Nat)(x:FFn):JV->JE->Heap->Vecs->JF:=zLE FUEL G (zYm FUEL G (t.T0 FUEL) (t.O0 FUEL) t.g d) (zYn FUEL G (t.T0 FUEL) (t.O0 FUEL) t.g d) id x.fc (zYk x.res)
noncomputable def fO(t:Tb P G)(d id:Nat)(x:FFn)(pn:JV):JV->JE->Heap->Vecs->Option (AV×Heap×Vecs):=zLE FUEL G (zYm FUEL G (t.T0 FUEL) (t.O0 FUEL) t.g d) (zYn FUEL G (t.T0 FUEL) (t.O0 FUEL) t.g d) id x.fc (zUx x.gr x.res pn)
end Go.Sy
namespace Go.Sy
def Wp{β:Type}(o:Option β)(P:β->Prop):Prop:=∃x,o=some x/\P x
section
variable{α β:Type}{P Q:β->Prop}
theorem Wp.mk{x:β}(h:P x):Wp (Option.some x) P:=⟨x,rfl,h⟩
theorem zcD{x:β}:Wp (Option.some x) P↔P x:=⟨λ⟨_,e,h⟩=>by cases e;exact h,λh=>⟨x,rfl,h⟩⟩
theorem zWO:Wp (none:Option β) P↔False:=⟨λ⟨_,e,_⟩=>(by cases e),False.elim⟩
theorem zbJ{b:Bool}{x y:Option β}:Wp (br b x y) P↔(b=true->Wp x P)/\(b=false->Wp y P):=by cases b<;>simp[br]
theorem zfe{b:Bool}{x:Option β}:Wp (gd b x) P↔b=true/\Wp x P:=by cases b<;>simp[gd,zWO]
theorem zff{o:Option α}{f:α->Option β}:Wp (bd o f) P↔Wp o λa=>Wp (f a) P:=by
 cases o with
 |none=>simp[bd,zWO]
 |some a=>simp[bd,zcD]
theorem Wp.mono{o:Option β}(h:Wp o P)(k:∀x,P x->Q x):Wp o Q:=let ⟨x,e,q⟩:=h;⟨x,e,k x q⟩
theorem Wp.if{b:Bool}{x y:Option β}(h1:b=true->Wp x P)(h2:b=false->Wp y P):Wp (br b x y) P:=zbJ.2 ⟨h1,h2⟩
theorem Wp.ite{p:Prop}[Decidable p]{x y:Option β}(h1:p->Wp x P)(h2:¬p->Wp y P):Wp (br (decide p) x y) P:=zbJ.2 ⟨λh=>h1 (Qm h),λh=>h2 (of_decide_eq_false h)⟩
theorem Wp.gd{p:Prop}[Decidable p]{x:Option β}(h1:p)(h2:Wp x P):Wp (gd (decide p) x) P:=zfe.2 ⟨Qc h1,h2⟩
theorem Wp.bd{o:Option α}{R:α->Prop}{f:α->Option β}(h:Wp o R)(k:∀a,R a->Wp (f a) P):Wp (bd o f) P:=zff.2 (h.mono k)
theorem zAs{x y:Option β}:br true x y=x:=rfl
theorem zj{x y:Option β}:br false x y=y:=rfl
theorem zGo{x:Option β}:Go.Sy.gd true x=x:=rfl
end
section
variable{β:Type}{P:β->Prop}{wk:Bool}
theorem zZm:∀n:Nat,Nat.beq n n=true:=λn=>by simp
end
theorem zI{n:Int}(h1:-9223372036854775808<=n)(h2:n<=9223372036854775807):wrapx .i64 n=n:=by
 cases n with
 |ofNat m=>
  have:Nat.ble m 9223372036854775807=true:=by rw[Qr];rw[qr]at h2;omega
  simp only[wrapx,this,cond]
 |negSucc m=>
  have:Nat.ble m 9223372036854775807=true:=by rw[Qr];omega
  simp only[wrapx,this,cond]
theorem zm{i:Nat}(h:i<9223372036854775807):wrapx .i64 (Int.ofNat i+1)=Int.ofNat (i+1):=zI (by rw[qr];omega) (by rw[qr];omega)
theorem zVq{α:Type}{l:List α}{i:Int}(a:0<=i)(h:i<Int.ofNat l.length):∃x,ixN l i=some x/\x∈l/\l[i.toNat]?=some x:=by
 obtain⟨n,rfl⟩:=Int.eq_ofNat_of_zero_le a;have h:n<l.length:=by simpa using h
 exact⟨l[n],QD h,Qg h,QD h⟩
section
variable{β:Type}{P:β->Prop}{wk:Bool}
theorem Wp.lt{i l:Nat}{x y:Option β}(h1:i<l->Wp x P)(h2:l<=i->Wp y P):Wp (br (decide (Int.ofNat i<Int.ofNat l)) x y) P:=
 Wp.ite (λh=>h1 (Int.ofNat_lt.1 h)) λh=>h2 (Nat.le_of_not_lt λa=>h (Int.ofNat_lt.2 a))
theorem zWP{α:Type}{l:List α}{av:α->AV}{i:Nat}(h:i<l.length):ixN (l.map av) (Int.ofNat i)=some (av l[i]):=by
 show(l.map av)[i]? = _
 rw[Qb,QD h];rfl
theorem zA2{α:Type}{l:List α}{i:Nat}(h:i<l.length):ixN l (Int.ofNat i)=some l[i]:=QD h
theorem zPA{s:JV}{i:Nat}(h:i<s.length):ldE (s.map λb=>AV.int .u8 (.ofNat b)) (Int.toNat (Int.ofNat i)) 0 1 false=some (.int .u8 (.ofNat s[i])):=by
 show(match(s.map λb=>AV.int .u8 (.ofNat b))[i]? with|some e=>part e.cells 0 1 false|none=>none)=_
 rw[Qb,QD h];rfl
theorem zKv{i l:Nat}{x:Option β}(h:i<l)(hx:Wp x P):Wp (Go.Sy.gd (decide (0<=Int.ofNat i/\Int.ofNat i<Int.ofNat l)) x) P:=
 Wp.gd ⟨Ql _,Int.ofNat_lt.2 h⟩ hx
theorem zZn{α γ:Type}{i:Nat}{s:List α}{f:α->γ}{x:Option β}(h:i<s.length)(hx:Wp x P):Wp (Go.Sy.gd (decide (0<=Int.ofNat i/\Int.ofNat i<Int.ofNat (s.map f).length)) x) P:=by
 rw[QG];exact zKv h hx
end
theorem zL2:FUEL=1180591620717411303423+1:=zH0
theorem zD{n:Nat}(h:n<=9223372036854775807):n<FUEL:=by rw[zH0];omega
theorem zCq{i:Nat}(a:0<i)(h:i<=9223372036854775807):wrapx .i64 (Int.ofNat i-1)=Int.ofNat (i-1):=by
 rw[zI (by rw[qr];omega) (by rw[qr];omega),qr,qr];omega
end Go.Sy
