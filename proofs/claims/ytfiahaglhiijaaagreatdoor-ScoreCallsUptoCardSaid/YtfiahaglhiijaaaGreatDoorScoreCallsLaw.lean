/- THE LAW OF THE LEAN FUNCTIONS, IN PLAIN LEAN: part 2. No condition. -/
import Derived.Test.YtfiahaglhiijaaaGreatDoorScoreCallsLawA
set_option linter.unusedVariables false
set_option linter.unusedSimpArgs false
set_option linter.unusedSectionVars false
open Int(ofNat)
namespace Go.Proofs.YtfiahaglhiijaaaGreatDoor.score
open Go Go.Sy
def zQa(a:JV):Bool:=a.all wrdB&&decide (1<=a.length/\a.length<=32)
theorem zTv(a:JV)(f:a.length<=2000000):zDP a=some (.bool (zQa a)):=by
 have loop:∀(n i:Nat),i<=a.length->a.length-i<n->zCW n a (ofNat i)=some (.bool ((a.drop i).all wrdB&&decide (1<=a.length/\a.length<=32))):=by
  intro n
  induction n with
  |zero=>intro i _ h;omega
  |succ n e=>
   intro i g j;refine zf ?_
   rw[zLe];refine Wd (λb=>Wp.bd (R:=λc=>c=a[i]) ⟨_,zAS b,rfl⟩ λc hc=>qk_b (zNW c) ?_) λd=>Wc (λh=>Wb ?_) λh=>Wb ?_
   .subst hc;rw[QO b,Qb];refine Wa (λh=>Wb ?_) λh=>?_
    .have:wrdB a[i]=false:=by simpa using h
     rw[this];rfl
    .have:wrdB a[i]=true:=by simpa using h
     rw[zd (by omega),e (i+1) b (by omega),this]
     exact Wb rfl
   .rw[QW d];rw[qJ]at h⊢;show _=AV.bool (decide (1<=a.length/\a.length<=32))
    exact congrArg AV.bool (decide_eq_decide.2 (by omega))
   .rw[QW d];rw[qJ]at h;show _=AV.bool (decide (1<=a.length/\a.length<=32))
    rw[QJ (by omega)]
 have:=loop ze 0 (QI _) (zk (by omega))
 rw[zMM];exact this
theorem zde{m:Nat}{a:JV}(h:zPq m a):z9 m a=true:=by
 unfold z9;rw[QM h.1,h.2.1,QD.2 h.2.2];rfl
theorem zdf{a:JV}(h:zXN a):zQa a=true:=by
 unfold zQa;have:1<=a.length:=List.length_pos_iff.2 h.1;rw[QD.2 h.2.2,QM ⟨this,h.2.1⟩];rfl
theorem zaw{k:Int}{a b:JV}{n:Int}(h:zbM k a b n):zBe k a b n (Int.negSucc 0) (Int.negSucc 0)=some (.bool true):=by
 have q:∀d:Bool,zBt d k a b n (Int.negSucc 0) (Int.negSucc 0)=zBs d true k a b n (Int.negSucc 0) (Int.negSucc 0):=λd=>by
  rw[zDA];rfl
 refine zf ?_
 rw[zEf];rcases h with⟨rfl,rfl,rfl,rfl⟩|⟨h1,r,t⟩
 .refine qk_b (zJJ [] 24 (by decide)) (Wf rfl<|?_)
  rw[q,zB2];exact Wt rfl (Wt rfl (Wt rfl (Wt rfl (Wb rfl))))
 .have u:a.length<=24:=h1.1;refine qk_b (zJJ a 24 (by omega)) ?_
  rw[zde h1];have f:(!zo a [97,110,121])=true:=by rw[zY,QJ r];rfl
  refine Wt rfl (?_)
  rw[f,q,zB2];rcases t with⟨hk,j,rfl⟩|⟨hk,rfl,p⟩|⟨rfl,rfl,rfl⟩
  .have e:Wp (zAi true true k true k a b 0 (Int.negSucc 0) (Int.negSucc 0)) λv=>v=.bool true:=by
    rw[zAV];refine Wt rfl (Wt rfl (Wt rfl (qk_b (zTv b (by have:=j.2.1;omega)) ?_)))
    rw[zdf j];exact Wt rfl (Wb rfl)
   rcases hk with rfl|rfl
   .exact Wf rfl<|Wt rfl (e)
   .exact Wf rfl<|Wf rfl<|e
  .have g:Wp (zAG true true k true k a [] n (Int.negSucc 0) (Int.negSucc 0)) λv=>v=.bool true:=by
    rw[zB1];refine Wt rfl (Wt rfl (Wt rfl (Wt rfl (Wc (λ_=>Wb ?_) λh=>absurd p.1 h))))
    rw[QM p.2]
   have e:Wp (zAi true true k false k a [] n (Int.negSucc 0) (Int.negSucc 0)) λv=>v=.bool true:=by
    rw[zAV];rcases hk with rfl|rfl
    .exact Wf rfl<|Wt rfl (g)
    .exact Wf rfl<|Wf rfl<|g
   rcases hk with rfl|rfl
   .exact Wf rfl<|Wf rfl<|e
   .exact Wf rfl<|Wf rfl<|e
  .refine Wf rfl<|Wf rfl<|?_
   rw[zAV];refine Wf rfl<|Wf rfl<|?_
   rw[zB1];exact Wf rfl<|Wt rfl (Wt rfl (Wt rfl (Wt rfl (Wb rfl))))
theorem zX5{k:Int}{p:Nat}{q:Int}(hk:k=7/\q=Int.negSucc 0\/(k=8\/k=9)/\∃b:Nat,q=ofNat b):zBe k [] [] (ofNat 0) (ofNat p) q=some (.bool true):=by
 refine zf ?_
 rw[zEf];refine qk_b (zJJ [] 24 (by decide)) (Wf rfl<|?_)
 rw[zDA];refine Wf rfl<|?_
 rw[zB2];have a:Wp (zBr true k [] [] (ofNat 0) (ofNat p) q) λv=>v=.bool true:=by
  rw[zGb];exact Wt rfl (Wt rfl (Wt rfl (Wb rfl)))
 have e:Wp (zAi false false k false k [] [] (ofNat 0) (ofNat p) q) λv=>v=.bool true:=by
  rw[zAV];have d:Wp (zAG false false k false k [] [] (ofNat 0) (ofNat p) q) λv=>v=.bool true:=by
   rw[zB1];rcases hk with⟨rfl,rfl⟩|⟨rfl|rfl,_⟩
   .exact Wf rfl<|Wf rfl<|Wt rfl (Wt rfl (Wt rfl (Wt rfl (Wb rfl))))
   .exact Wf rfl<|Wf rfl<|Wf rfl<|Wt rfl (a)
   .exact Wf rfl<|Wf rfl<|Wf rfl<|Wf rfl<|a
  rcases hk with⟨rfl,rfl⟩|⟨rfl|rfl,_⟩<;>exact Wf rfl<|Wf rfl<|d
 rcases hk with⟨rfl,rfl⟩|⟨rfl|rfl,_⟩<;>exact Wf rfl<|Wf rfl<|e
def zf4(i:Nat)(v:AV):Prop:=∃k a b n l r,v=nd6 k a b n l r/\zBe k a b n l r=some (.bool true)/\-1<=l/\l<i/\-1<=r/\r<i/\(7<=k->0<=l)/\(8<=k->0<=r)
theorem zSv:∀{t:RT}{es:JE}{o:Nat},t.wf->Seg es t o->∀j,j<t.size->∃v,es[o+j]?=some v/\zf4 (o+j) v
 |.leaf k a b n,es,o,d,hs,j,e=>by
  have e:j<1:=e;obtain rfl:j=0:=by omega
  have hk:=(RT.wf.kd (t:=.leaf k a b n) d).2;exact⟨_,hs.leaf,_,_,_,_,_,_,rfl,zaw d,by decide,by rw[show Int.negSucc 0=-1 from rfl];omega,by decide,by rw[show Int.negSucc 0=-1 from rfl];omega,λh=>by omega,λh=>by omega⟩
 |.not t,es,o,d,hs,j,e=>by
  obtain⟨g,f⟩:=hs.not;have e:j<t.size+1:=e;have:=t.size_pos;by_cases h:j<t.size
  .exact zSv (t:=t) d g j h
  .obtain rfl:j=t.size:=by omega
   refine⟨_,f,_,_,_,_,_,_,rfl,zX5 (.inl ⟨rfl,rfl⟩),?_,?_,by decide,?_,λ_=>QU _,λh=>by omega⟩
   .rw[qJ];omega
   .rw[qJ];omega
   .rw[show Int.negSucc 0=-1 from rfl];omega
 |.two k t u,es,o,d,hs,j,e=>by
  obtain⟨g,f,p⟩:=hs.two;have e:j<t.size+u.size+1:=e;have:=t.size_pos;have:=u.size_pos;by_cases h:j<t.size
  .exact zSv (t:=t) d.2.1 g j h
  .by_cases q:j<t.size+u.size
   .have:=zSv (t:=u) d.2.2 f (j-t.size) (by omega)
    rwa [show o+t.size+(j-t.size)=o+j by omega]at this
   .obtain rfl:j=t.size+u.size:=by omega
    rw[←Nat.add_assoc];refine⟨_,p,_,_,_,_,_,_,rfl,zX5 (.inr ⟨d.1,_,rfl⟩),?_,?_,?_,?_,λ_=>QU _,λh=>QU _⟩<;>rw[qJ]<;>omega
theorem zdg{es:JE}:∀(t:RT)(o d:Nat),t.size<=d->t.size<=64->Seg es t o->zBz d es (ofNat (o+t.size-1))=some (.int .i64 (ofNat t.size)):=by
 intro t
 induction t with
 |leaf k a b n=>
  intro o d v w hs;have f:(RT.leaf k a b n).size=1:=rfl;obtain⟨d,rfl⟩:∃e,d=e+1:=⟨d-1,by omega⟩
  refine zf ?_
  rw[zC3,f,show o+1-1=o by omega]
  refine zBj hs.leaf (Wc (λh=>by exact absurd h (by decide)) λ_=>?_)
  rw[zB9];refine zBj hs.leaf (Wc (λh=>by exact absurd h (by decide)) λ_=>?_)
  rw[zB8];refine Wf rfl<|?_
  rw[zA6];exact Wb rfl
 |not t y=>
  intro o d v w hs;have f:(RT.not t).size=t.size+1:=rfl;obtain⟨d,rfl⟩:∃e,d=e+1:=⟨d-1,by omega⟩
  refine zf ?_
  obtain⟨q,g⟩:=hs.not;rw[zC3,f,show o+(t.size+1)-1=o+t.size by omega]
  refine zBj g (Wc (λ_=>zBj g (qk_i (y o d (by omega) (by omega) q) ?_)) λh=>by exact absurd (QU _) h)
  rw[show wrapx .i64 (ofNat 1+ofNat t.size)=ofNat (t.size+1) by rw[zm (by rw[qJ,qJ];omega) (by rw[qJ,qJ];omega),qJ,qJ,qJ];omega]
  rw[zB9];refine zBj g (Wc (λh=>by exact absurd h (by decide)) λ_=>?_)
  rw[zB8];refine Wf rfl<|?_
  rw[zA6];exact Wb rfl
 |two k t u r p=>
  intro o d v w hs;have f:(RT.two k t u).size=t.size+u.size+1:=rfl;have:=t.size_pos;have:=u.size_pos;obtain⟨d,rfl⟩:∃e,d=e+1:=⟨d-1,by omega⟩
  refine zf ?_
  obtain⟨q,g,j⟩:=hs.two;rw[zC3,f,show o+(t.size+u.size+1)-1=o+t.size+u.size by omega]
  refine zBj j (Wc (λ_=>zBj j (qk_i (r o d (by omega) (by omega) q) ?_)) λh=>by exact absurd (QU _) h)
  rw[show wrapx .i64 (ofNat 1+ofNat t.size)=ofNat (t.size+1) by rw[zm (by rw[qJ,qJ];omega) (by rw[qJ,qJ];omega),qJ,qJ,qJ];omega]
  rw[zB9];refine zBj j (Wc (λ_=>?_) λh=>by exact absurd (QU _) h)
  rw[QM (show ofNat (t.size+1)<=64 by rw[qJ];omega),zB8]
  refine Wt rfl (zBj j (qk_i (p (o+t.size) d (by omega) (by omega) g) ?_))
  rw[zA6];refine Wb ?_
  rw[zm (by rw[qJ,qJ];omega) (by rw[qJ,qJ];omega),qJ,qJ,qJ]
  congr 1;omega
theorem zX6(t:RT)(q:t.wf)(y:t.size<=64):zZ (t.fl 0)=some (.int .i64 (zYy t)):=by
 have F:(t.fl 0).length=t.size:=t.fl_length 0;have p:=t.size_pos;have loop:∀(n i:Nat),i<=t.size->t.size-i<n->Wp (zH n (ofNat t.size) (ofNat i) (t.fl 0)) λv=>v=.int .i64 (zYy t):=by
  intro n
  induction n with
  |zero=>intro i _ h;omega
  |succ n I=>
   intro i S T;rw[zFE];refine Wd (λj=>?_) λC=>?_
   .obtain⟨v,B,k,a,b,m,l,r,rfl,w,U,H,L,G,D,A⟩:=zSv q (Seg.whole t) i j;rw[QY]at B H G;have next:=I (i+1) j (by omega)
    rw[←zd (by omega)]at next
    refine zBj B (qk_b w (Wf rfl<|Wc (λh=>?_) λ_=>Wc (λh=>?_) λ_=>Wc (λh=>?_) λ_=>Wc (λh=>?_) λ_=>Wc (λE=>Wc (λh=>?_) λ_=>Wc (λh8=>Wc (λh=>?_) λ_=>next) λ_=>next) λ_=>Wc (λh8=>Wc (λh=>?_) λ_=>next) λ_=>next))
    .omega
    .rw[qJ]at h;omega
    .omega
    .rw[qJ]at h;omega
    .have:=D E;omega
    .have:=A h8;omega
    .have:=A h8;omega
   .have g:=zXX (es:=t.fl 0) (M:=56) (by decide) t 0 ze 0 (Qm (zk (by omega))) (by omega) (Seg.whole t) q.bd.1 q.bd.2 q.kd
    have d:=zdg (es:=t.fl 0) t 0 ze (Qm (zk (by omega))) y (Seg.whole t)
    have z:parT t.tg 0 t.told=t.told:=by
     unfold parT;have:¬t.tg<0:=by
      unfold RT.tg;split
      .repeat' split
       all_goals decide
      .decide
     rw[if_neg this]
    rw[z,QY]at g;rw[QY]at d;rw[zA8 p (by omega)]
    refine qk_i d (Wa (λh=>?_) λ_=>zBV g ?_)
    .have h:(!(ofNat t.size==ofNat t.size))=true:=h;simp at h
    rw[zWn];unfold zYy;cases hp:zGB t.told with
    |error e=>
     obtain⟨e,f⟩:=e;have J:=zNj q.h8 hp;show Wp (br (!(e==0&&f==0)) _ _) _
     rw[J];exact Wb rfl
    |ok u=>
     obtain⟨Q,O,R⟩:=zOI hp;show Wp (dK true [K.b] (zBA (u.fl 0) (t.fl 0)) _) _
     refine qk_b (zP9 _ _ (zGD u 0) (zGD t 0) (by rw[RT.fl_length];omega)) (Wa (λh=>Wb ?_) λh=>Wb ?_)
     .show _=AV.int .i64 (if u.fl 0=t.fl 0 then 0 else 2)
      rw[if_neg (by simpa using h)];rfl
     .show _=AV.int .i64 (if u.fl 0=t.fl 0 then 0 else 2)
      rw[if_pos (by simpa using h)];rfl
 refine zf ?_
 rw[zG3,F];refine Wc (λh=>?_) λ_=>Wc (λh=>?_) λ_=>?_
 .rw[qJ]at h;omega
 .rw[qJ]at h;omega
 rw[zGd];exact loop ze 0 (QI _) (zk (by omega))
theorem zVx(s:JV)(k:s.length<=2000000):zJo s=some (.bool (z9 16 s)):=by
 have loop:∀(n i:Nat),i<=s.length->s.length-i<n->zIK n (ofNat (bytes s).length) (ofNat i) (bytes s)=some (.bool ((s.drop i).all namB)):=by
  intro n
  induction n with
  |zero=>intro i _ h;omega
  |succ n t=>
   intro i u w;refine zf ?_
   rw[zSI];rw[QG];refine Wd (λh=>zHT h (zaN (zUu h) ?_)) λf=>Wb ?_
   .have next:∀b:Bool,b=!namB s[i]->Wp (zCj n (ofNat s.length) (ofNat i) b (bytes s)) λv=>v=.bool ((s.drop i).all namB):=λb e=>by
     rw[zSH,QO h,Qb];refine Wa (λj=>Wb ?_) λj=>?_
     .have:namB s[i]=false:=by rw[j]at e;simpa using e.symm
      rw[this];rfl
     .have:namB s[i]=true:=by rw[j]at e;simpa using e.symm
      have:=t (i+1) h (by omega)
      rw[QG]at this;rw[zd (by omega),this,‹namB s[i]=true›]
      exact Wb rfl
    generalize s[i]=c at next
    repeat' first|refine Wc (λ_=>?_) (λ_=>?_)|refine next _ ?_
    all_goals simp only[qJ]at *
    all_goals unfold namB zAb zt
    all_goals rw[Bool.eq_iff_iff]
    all_goals simp
    all_goals omega
   .rw[QW f];rfl
 have d:∀b:Bool,(b=true->z9 16 s=false)->(b=false->z9 16 s=s.all namB)->zE4 s b=some (.bool (z9 16 s)):=λb h1 g=>by
  refine zf ?_
  rw[zSK];refine Wa (λh=>Wb (by rw[h1 h])) λh=>?_
  rw[zSJ];refine⟨_,loop ze 0 (QI _) (zk (by omega)),?_⟩
  rw[g h];rfl
 refine zf ?_
 rw[zVC];refine Wc (λh=>⟨_,d _ (λ_=>?_) (λh=>by cases h),rfl⟩) λq=>Wc (λh=>⟨_,d _ (λ_=>?_) (λh=>by cases h),rfl⟩) λh1=>?_
 .unfold z9;rw[zC5 (by rw[qJ]at h;omega)];simp
 .unfold z9;rw[QJ (by rw[qJ]at h;omega)];simp
 .rw[qJ]at q h1;have k:0<s.length:=by omega
  have r:ixN s 0=some s[0]:=zAS k;have p:decide (s.length<=16)=true:=QM (by omega)
  have a:isAt zAb s 0=zAb s[0]:=zBx k;rw[r];refine Wc (λh=>⟨_,d _ (λ_=>?_) (λh=>by cases h),rfl⟩) λg=>⟨_,d _ (λh=>?_) (λh=>?_),rfl⟩
  .unfold z9;rw[p,a];unfold zAb;rw[QJ (by rw[qJ]at h;omega)];simp
  .have h:=QP h;unfold z9;rw[p,a];unfold zAb;rw[QJ (by rw[qJ]at h;omega)];simp
  .have h:=Qk h;unfold z9;rw[p,a];unfold zAb;rw[QM (by rw[qJ]at h g;omega)];simp
theorem zRH(s:JV)(a:s.length<=2000000):zCu s=some (.bool (z9 16 s)):=by
 refine zf ?_
 rw[zML];exact qk_b (zJJ s 16 a) (Wb rfl)
theorem zSw{l:JE}{n i:Nat}{x:Int}(b:l[i]?=some (.int .i64 x))(d:i<4):zAE (n+1) l (ofNat i)=if 0<=x/\x<=1099511627776 then zAE n l (ofNat (i+1))else some (.int .i64 2):=by
 rw[zGa,zJ5,b,zd (by omega),QM (show ofNat i<4 by rw[qJ];omega)]
 show br (decide (x<0)) _ (br (decide (x > 1099511627776)) _ _)=_
 by_cases a:x<0
 .rw[QM a,if_neg (by omega)];rfl
 .rw[QJ a];by_cases h1:x > 1099511627776
  .rw[QM h1,if_neg (by omega)];rfl
  .rw[QJ h1,if_pos (by omega)];rfl
theorem zgO:zGj=some (.agg [.qg 6 [nd6 (ofNat 1) [] [] (ofNat 0) (Int.negSucc 0) (Int.negSucc 0)]]):=by rw[zNq]
theorem zf5{β:Type}{wk:Bool}{es:JE}{f:JE->Option β}:dK wk yA (some (.agg [.qg 6 es])) f=f es:=rfl
theorem TL.at{es:JE}{L:Nat->Nat}{m j:Nat}(h:TL es L m)(d:j<m):∃k s t n l r,ixN es (ofNat j)=some (nd6 k s t n l r)/\(-9223372036854775808<=n/\n<=9223372036854775807)/\s.length+t.length+24<=L j/\L j<=zYx ∧
 (k=7->∃a:Nat,l=ofNat a/\a<j/\L a+3<=L j)/\(k=8\/k=9->∃a b:Nat,l=ofNat a/\r=ofNat b/\a<j/\b<j/\L a+L b+7<=L j):=h j d
abbrev isT(m:Nat)(v:AV):Prop:=∃t,v=.str t/\(t.length<=m/\okS t)
abbrev NC(es:JE):Prop:=∀(j:Nat) k s t n l r,es[j]?=some (nd6 k s t n l r)->okS s/\okS t
theorem zBN{l:JV}(h:l.all (λc=>decide (zJk c))=true):okS l:=λc hc=>QP (QD.1 h c hc)
theorem zf6{d:Nat}{es:JE}{L:Nat->Nat}{m a:Nat}(h:TL es L m)(w:a<m)(g:Wp (zD4 d es (ofNat a)) (isT (L a)))(b:Int):Wp (zCT (d+1) (ofNat a) b es) (isT (L a+2)):=by
 rw[zN5];obtain⟨k,s,t,n,l,r,q,_,_,j,_⟩:=h.at w;refine zVL g λu f=>zE1 q ?_
 have:∃x,zIh k=some (.int .i64 x):=by
  have:Wp (zIh k) isE:=by
   rw[zOO]
   repeat' first|refine Wa (λ_=>?_) (λ_=>?_)|exact Wb ⟨_,rfl,trivial⟩
  obtain⟨v,e,x,rfl,_⟩:=this;exact⟨x,e⟩
 obtain⟨x,p⟩:=this;refine qk_i p (Wc (λ_=>We ?_ (We ?_ (Wb ⟨_,rfl,?_,zAq (zAq (zBN rfl) f.2) (zBN rfl)⟩))) λ_=>Wb ⟨_,rfl,by omega,f.2⟩)
 all_goals simp only[QC,QL,QZ]
 all_goals unfold zYx at j
 all_goals first|omega|(unfold zh;omega)
theorem ze8{es:JE}{L:Nat->Nat}{m:Nat}(h:TL es L m)(O:NC es):∀(d j:Nat),2*j+1<=d->j<m->Wp (zD4 d es (ofNat j)) (isT (L j)):=by
 intro d
 induction d using Nat.strongRecOn with
 |_ d M=>
  intro j Q K;obtain⟨k,s,t,n,l,r,F,E,h1,H,I,q⟩:=h.at K;obtain⟨d,rfl⟩:∃A,d=A+1:=⟨d-1,by omega⟩
  have part:∀a:Nat,a<j->∀e:Int,Wp (zCT d (ofNat a) e es) (isT (L a+2)):=λa g e=>by
   obtain⟨d2,rfl⟩:∃A,d=A+1:=⟨d-1,by omega⟩
   exact zf6 h (by omega) (M d2 (by omega) a (by omega) (by omega)) e
  obtain⟨p,G⟩:=O j k s t n l r F;unfold zYx at H;have m0:zh=9223372036854775807:=rfl;rw[zIM];refine zE1 F ?_
  refine Wa (λ_=>Wb ⟨_,rfl,by show 3<=_;omega,zBN rfl⟩) λ_=>?_
  refine Wa (λ_=>We ?_ (We ?_ (Wb ⟨_,rfl,?_,zAq (zAq p (zBN rfl)) G⟩))) λ_=>?_
  any_goals (simp only[QC,QL,QZ];omega)
  refine Wa (λ_=>We ?_ (We ?_ (Wb ⟨_,rfl,?_,zAq (zAq p (zBN rfl)) G⟩))) λ_=>?_
  any_goals (simp only[QC,QL,QZ];omega)
  obtain⟨f,C,J,D⟩:=zaq n E.1 E.2;refine Wa (λ_=>We ?_ (zBV C (We ?_ (Wb ⟨_,rfl,?_,zAq (zAq p (zBN rfl)) D⟩)))) λ_=>?_
  any_goals (simp only[QC,QL,QZ];omega)
  refine Wa (λ_=>We ?_ (zBV C (We ?_ (Wb ⟨_,rfl,?_,zAq (zAq p (zBN rfl)) D⟩)))) λ_=>?_
  any_goals (simp only[QC,QL,QZ];omega)
  refine Wa (λhk=>?_) λ_=>?_
  .obtain⟨a,rfl,g,B⟩:=I (by simpa using hk)
   refine zVL (part a g _) λu v=>We ?_ (Wb ⟨_,rfl,?_,zAq (zBN rfl) v.2⟩)
   all_goals simp only[QC,QL,QZ]
   all_goals omega
  refine Wa (λhk=>?_) λ_=>?_
  .obtain⟨a,b,rfl,rfl,g,y,B⟩:=q (.inl (by simpa using hk))
   refine zVL (part a g _) λu v=>We ?_ (zVL (part b y _) λw z=>We ?_ (Wb ⟨_,rfl,?_,zAq (zAq v.2 (zBN rfl)) z.2⟩))
   all_goals simp only[QC,QL,QZ]
   all_goals omega
  refine Wa (λhk=>?_) λ_=>Wb ⟨_,rfl,by omega,p⟩
  .obtain⟨a,b,rfl,rfl,g,y,B⟩:=q (.inr (by simpa using hk))
   refine zVL (part a g _) λu v=>We ?_ (zVL (part b y _) λw z=>We ?_ (Wb ⟨_,rfl,?_,zAq (zAq v.2 (zBN rfl)) z.2⟩))
   all_goals simp only[QC,QL,QZ]
   all_goals omega
theorem zb1{l:JE}{L:Nat->Nat}(h:TL l L l.length)(b:NC l)(a:0<l.length)(d:l.length<=64):Wp (zD4 ze l (wrapx .i64 (ofNat l.length-1))) λv=>∃t,v=.str t/\okS t:=by
 rw[zA8 a (by omega)]
 exact(ze8 h b ze (l.length-1) (Qm (zk (by omega))) (by omega)).mono λv ⟨t,e,h⟩=>⟨t,e,h.2⟩
def zPw(us:JE)(c:Nat->Int)(m:Nat):Prop:=us.length=m/\∀j,j<m->us[j]?=some (.int .i64 (c j))
theorem zSx{us:JE}{j:Nat}{x:Int}(h:us[j]?=some (.int .i64 x)):ldE us (Int.toNat (ofNat j)) 0 1 false=some (.int .i64 x):=by
 show(match us[j]? with|some e=>Go.Sy.part e.cells 0 1 false|none=>none)=_
 rw[h];rfl
theorem zPw.set{us:JE}{c:Nat->Int}{m a:Nat}(h:zPw us c m)(f:a<m)(x:Int):zPw (us.set a (.int .i64 x)) (upd c a x) m:=by
 refine⟨by rw[List.length_set];exact h.1,λj b=>?_⟩
 by_cases e:j=a
 .subst e;rw[zHq,List.getElem?_set_self (by rw[h.1];exact b)]
 .rw[zDq e,List.getElem?_set_ne (λd=>e d.symm)]
  exact h.2 j b
def zO9:Nat:=4000100
def Bad(c:Nat->Int)(m:Nat):Prop:=∃j,j<m/\2<=c j
structure Sh(es:JE)(L:Nat->Nat)(c:Nat->Int)(i T:Nat):Prop where
 tl:TL es L i
 le:∀j,j<i->L j<=zO9*i
 sum:rs L c i+T<=zO9*i
 qI:∀j,j<i->c j=0\/c j=1
 new:∀j,i<=j->c j=0
def Ok(es:JE)(c:Nat->Int)(m i T:Nat)(a:JV):Prop:=Bad c m\/∃L,Sh es L c i T/\(a.map L).foldr (·+·) 0<=T
theorem Sh.take{es:JE}{L:Nat->Nat}{c:Nat->Int}{i T a:Nat}(h:Sh es L c i T)(d:a<i)(f:c a=0):Sh es L (upd c a (c a+1)) i (T+L a):=by
 refine⟨h.tl,h.le,?_,λj b=>?_,λj b=>?_⟩
 .have:=zZn (L:=L) f (show c a+1≠0 by omega) d
  have:=h.sum;omega
 .by_cases e:j=a
  .subst e;rw[zHq];omega
  .rw[zDq e];exact h.qI j b
 .rw[zDq (by omega)];exact h.new j b
theorem Ok.take{es:JE}{c:Nat->Int}{m i T a:Nat}{b:JV}(h:Ok es c m i T b)(d:a<i)(k:i<=m)(hc:∀j,0<=c j):∃q,Ok es (upd c a (c a+1)) m i q (a::b):=by
 rcases h with⟨j,p,f⟩|⟨L,h,hk⟩
 .refine⟨0,.inl ⟨j,p,?_⟩⟩
  by_cases e:j=a
  .subst e;rw[zHq];omega
  .rw[zDq e];exact f
 .rcases h.qI a d with g|h1
  .refine⟨T+L a,.inr ⟨L,h.take d g,?_⟩⟩
   show L a+(b.map L).foldr (·+·) 0<=_
   omega
  .exact⟨0,.inl ⟨a,by omega,by rw[zHq];omega⟩⟩
theorem Ok.next{es:JE}{c:Nat->Int}{m i T:Nat}{p:JV}(h:Ok es c m i T p)(B:i<m)(Q:i<64){k:Int}{s t:JV}{n l r:Int}(K:es[i]?=some (nd6 k s t n l r))(I:-9223372036854775808<=n/\n<=9223372036854775807)(hs:s.length+t.length+24<=zO9)
  (D:k=7->∃a:Nat,l=ofNat a/\a<i/\p=[a]) (v:k=8\/k=9->∃a b:Nat,l=ofNat a/\r=ofNat b/\a<i/\b<i/\p=[b,a]):Ok es c m (i+1) 0 []:=by
 rcases h with f|⟨L,h,hk⟩
 .exact .inl f
 .refine .inr ⟨upd L i (T+zO9),⟨λj g=>?_,λj g=>?_,?_,λj g=>?_,λj g=>h.new j (by omega)⟩,QA _⟩
  .by_cases e:j=i
   .subst e;have O:T<=zO9*j:=by have:=h.sum;omega
    refine⟨k,s,t,n,l,r,K,I,by rw[zHq];omega,by rw[zHq];unfold zO9 zYx at *;omega,λe=>?_,λe=>?_⟩
    .obtain⟨a,rfl,d,rfl⟩:=D e;have hk:L a+0<=T:=hk;exact⟨a,rfl,d,by rw[zHq,zDq (by omega)];unfold zO9;omega⟩
    .obtain⟨a,b,rfl,rfl,d,f,rfl⟩:=v e;have hk:L b+(L a+0)<=T:=hk;exact⟨a,b,rfl,rfl,d,f,by rw[zHq,zDq (by omega),zDq (by omega)];unfold zO9;omega⟩
   .obtain⟨F,w,A,y,J,z,q1,M,E,H,G,C⟩:=h.tl j (by omega)
    refine⟨F,w,A,y,J,z,q1,M,by rw[zDq e];exact E,by rw[zDq e];exact H,λq=>?_,λq=>?_⟩
    .obtain⟨a,rfl,d,u⟩:=G q;exact⟨a,rfl,d,by rw[zDq e,zDq (by omega)];exact u⟩
    .obtain⟨a,b,rfl,rfl,d,f,u⟩:=C q;exact⟨a,b,rfl,rfl,d,f,by rw[zDq e,zDq (by omega),zDq (by omega)];exact u⟩
  .by_cases e:j=i
   .subst e;rw[zHq];have:=h.sum;rw[Nat.mul_add];omega
   .rw[zDq e];have:=h.le j (by omega);rw[Nat.mul_add];omega
  .rw[rs,zTo (L':=L) (c':=c) (λj g=>zDq (by omega)) λ_ _=>rfl,zHq,if_pos (h.new i (QA _)),Nat.mul_add]
   have:=h.sum;omega
  .by_cases e:j=i
   .subst e;exact .inl (h.new j (QA _))
   .exact h.qI j (by omega)
abbrev zTV(es:JE)(v:AV):Prop:=∃b,v=.bool b/\(b=true->0<es.length/\es.length<=64/\∃L,TL es L es.length)
theorem zHa{es:JE}:zTV es (.bool false):=⟨false,rfl,λh=>by cases h⟩
theorem zax(es us:JE)(c:Nat->Int)(d:zPw us c es.length)(r:0<es.length)(p:es.length<=64)(g:Ok es c es.length es.length 0 []):∀(n i:Nat),i<=es.length->es.length-i<n->(∀j,j<i->j<es.length-1->c j=1)->Wp (zDG n es (ofNat us.length) (ofNat i) us) (zTV es):=by
 intro n
 induction n with
 |zero=>intro i _ h;omega
 |succ n u=>
  intro i A B k;have w:=d.1;rw[zKJ,d.1];have a:wrapx .i64 (ofNat es.length-1)=ofNat (es.length-1):=zA8 r (by omega)
  refine Wd (λb=>?_) λv=>?_
  .refine zHT b (qk_i (zSx (d.2 i b)) ?_)
   rw[a,zd (by omega),←d.1]
   refine Wd (λz=>Wa (λ_=>Wb zHa) λh1=>u (i+1) b (by omega) λj q f=>?_) λz=>u (i+1) b (by omega) λj q f=>?_
   .by_cases e:j=i
    .subst e;simpa using h1
    .exact k j (by omega) f
   .exact k j (by omega) f
  .rw[a];refine zHT (by omega) (qk_i (zSx (d.2 _ (by omega))) (Wb ⟨_,rfl,λt=>⟨r,p,?_⟩⟩))
   have t:c (es.length-1)=0:=by simpa using t
   rcases g with⟨j,y,q⟩|⟨L,h,_⟩
   .by_cases e:j<es.length-1
    .have:=k j (by omega) e;omega
    .have:j=es.length-1:=by omega
     subst this;omega
   .exact⟨L,h.tl⟩
theorem zOX{es us parts:JE}{n27 n i x:Nat}{c:Nat->Int}{k:Int}{P:AV->Prop}(f:zPw us c es.length)(hc:∀j,0<=c j/\c j<=1000)(hx:parts[x]?=some (.int .i64 k))(p:x<5)(u:i<=es.length)(t23 t24:Int)(t22:JE)(e:P (.bool false))
  (h:∀a:Nat,k=ofNat a->a<i->Wp (zBb n27 n es (ofNat i) t22 t23 t24 (ofNat parts.length) (ofNat (x+1)) (us.set a (.int .i64 (c a+1))) parts) P):Wp (zBb n27 (n+1) es (ofNat i) t22 t23 t24 (ofNat parts.length) (ofNat x) us parts) P:=by
 have b:x<parts.length:=(QB.1 hx).1;rw[zET];refine Wd (λ_=>zHT b (qk_i (zSx hx) (Wc (λ_=>Wb e) λt=>Wc (λ_=>Wb e) λh1=>?_))) λg=>absurd b (by omega)
 obtain⟨a,rfl⟩:=Int.eq_ofNat_of_zero_le (show 0<=k by omega)
 have r:a<i:=by rw[qJ]at h1;omega
 have d:a<us.length:=by rw[f.1];omega
 have q:=hc a;refine zHT d (qk_i (zSx (f.2 a (by omega))) (zHT d ?_))
 rw[zd (by omega),zm (by omega) (by omega)]
 exact h a rfl r
theorem zQb{es us parts:JE}{n27 n i x:Nat}{P:AV->Prop}(hx:x=parts.length)(a:i<1000)(t22:JE)(t23:Int)(h:Wp (zBP n27 es t22 t23 (ofNat (i+1)) us) P):Wp (zBb n27 (n+1) es (ofNat i) t22 t23 (ofNat i) (ofNat parts.length) (ofNat x) us parts) P:=by
 rw[zET];refine Wd (λh=>absurd h (by omega)) λ_=>?_
 rw[zd (by omega)]
 exact h
theorem zay:ze=1180591620717411303421+1+1+1:=zE3
theorem zX7{c:Nat->Int}{a n:Nat}(hc:∀j,0<=c j/\c j<=(n:Int))(j:Nat):0<=upd c a (c a+1) j/\upd c a (c a+1) j<=((n+1:Nat):Int):=by
 by_cases e:j=a
 .subst e;rw[zHq];have:=hc j;omega
 .rw[zDq e];have:=hc j;omega
theorem zYT(es:JE)(h:Nds es):Wp (zJB es) (zTV es):=by
 rw[zN4];refine Wc (λ_=>Wb zHa) λI=>Wc (λ_=>Wb zHa) λz=>?_
 rw[qJ]at I z;have I:0<es.length:=by omega
 have z:es.length<=64:=by omega
 have loop:∀(n i:Nat)(us:JE)(c:Nat->Int),i<=es.length->es.length-i<n->zPw us c es.length->(∀j,0<=c j/\c j<=((2*i:Nat):Int))->Ok es c es.length i 0 []->Wp (zBP n es es (ofNat es.length) (ofNat i) us) (zTV es):=by
  intro n
  induction n with
  |zero=>intro i us c _ h;omega
  |succ n O=>
   intro i us c B hn y hc g;have F:∀j,0<=c j/\c j<=1000:=λj=>by have:=hc j;omega
   have L:∀j,0<=c j/\c j<=((2*(i+1):Nat):Int):=λj=>by have:=hc j;omega
   rw[zDz];refine Wd (λd=>?_) λS=>?_
   .obtain⟨k,s,t,nn,l,r,R,K,n1,hs,V⟩:=h.1 _ (QR d);have v:es[i]?=some (nd6 k s t nn l r):=by rw[QF d,R]
    have q:s.length+t.length+24<=zO9:=by have a1:=hs.1;have a2:=V.1;unfold zO9;omega
    refine zE1 ((zAS d).trans (congrArg some R)) ?_
    have u:∀parts,parts=[]->¬k=7->¬(k=8\/k=9)->Wp (zC7 n es (ofNat i) es (ofNat es.length) (ofNat i) us parts) (zTV es):=λparts Y X h8=>by
     subst Y;rw[zCN,zay];exact zQb rfl (by omega) _ _ (O (i+1) us c d (by omega) y L (g.next d (by omega) v ⟨K,n1⟩ q (λe=>absurd e X) λe=>absurd e h8))
    refine Wa (λhk=>?_) λp=>?_
    .have hk:k=7:=by simpa using hk
     refine Wa (λ_=>Wb zHa) λ_=>?_
     rw[zCN,zay];refine zOX (parts:=[.int .i64 l]) (x:=0) y F rfl (by omega) B _ _ _ zHa λa M f=>?_
     obtain⟨T,w⟩:=g.take f B λj=>(hc j).1
     refine zQb rfl (by omega) _ _ (O (i+1) _ (upd c a (c a+1)) d (by omega) (y.set (by omega) _) (λj=>?_) (w.next d (by omega) v ⟨K,n1⟩ q (λ_=>⟨a,M,f,rfl⟩) λe=>by omega))
     have:=zX7 (a:=a) hc j;omega
    .have p:¬k=7:=by simpa using p
     have two:k=8\/k=9->Wp (zC7 n es (ofNat i) es (ofNat es.length) (ofNat i) us [.int .i64 l,.int .i64 r]) (zTV es):=λhk=>by
      rw[zCN,zay];refine zOX (parts:=[.int .i64 l,.int .i64 r]) (x:=0) y F rfl (by omega) B _ _ _ zHa λa M f=>?_
      obtain⟨T,w⟩:=g.take f B λj=>(hc j).1
      have A:=λj=>zX7 (a:=a) hc j
      refine zOX (parts:=[.int .i64 l,.int .i64 r]) (x:=1) (y.set (by omega) _) (λj=>by have:=A j;omega) rfl (by omega) B _ _ _ zHa λb C D=>?_
      obtain⟨T2,J⟩:=w.take D B λj=>(A j).1
      refine zQb rfl (by omega) _ _ (O (i+1) _ (upd (upd c a (c a+1)) b (upd c a (c a+1) b+1)) d (by omega) ((y.set (by omega) _).set (by omega) _) (λj=>?_) (J.next d (by omega) v ⟨K,n1⟩ q (λe=>by omega) λ_=>⟨a,b,M,C,f,D,rfl⟩))
      have:=zX7 (a:=b) A j;omega
     have Q:∀b:Bool,(b=true->k=8\/k=9)->(b=false->¬(k=8\/k=9))->Wp (zFb n es (ofNat i) es (ofNat es.length) (ofNat i) b k s t nn l r us []) (zTV es):=λb U b0=>by
      rw[zHI];exact Wa (λC=>two (U C)) λC=>Wa (λ_=>Wb zHa) λ_=>Wa (λ_=>Wb zHa) λ_=>u [] rfl p (b0 C)
     refine Wa (λhk=>Q true (λ_=>.inl (by simpa using hk)) λe=>by cases e) λE=>Q _ (λe=>.inr (by simpa using e)) λe=>?_
     have E:¬k=8:=by simpa using E
     have W:¬k=9:=by simpa using e
     omega
   .have:i=es.length:=by omega
    subst this;exact zax es us c y I z g _ 0 (QI _) (zk (by omega)) λj G=>by omega
 rw[zLm];have H:Int.toNat (ofNat es.length)=es.length:=rfl;refine We ⟨QU _,Int.le_refl _,?_,?_⟩ (loop _ 0 _ (λ_=>0) (QI _) (zk (by omega)) ⟨?_,λj G=>?_⟩ (λj=>by omega) (.inr ⟨λ_=>0,⟨λj G=>by omega,λj G=>by omega,QA _,λj G=>by omega,λ_ _=>rfl⟩,QA _⟩))
 .rw[H];unfold zg;omega
 .rw[H];unfold zg;omega
 .rw[H,List.length_replicate]
 .rw[H];exact QB.2 ⟨by rw[List.length_replicate];exact G,by rw[List.getElem_replicate]⟩
theorem Nds.ue{es:JE}(h:Nds es):ue es:=λe a=>by
 obtain⟨k,s,t,n,l,r,e,_⟩:=h.1 e a;exact⟨k,s,t,n,l,r,e⟩
def zR2(es:JE):Prop:=∃t:RT,es=t.fl 0/\t.wf/\t.size<=64
theorem zdh{es:JE}(h:Nds es):∃c,zDs es=some (.int .i64 c)/\(c=0/\zR2 es\/c=2):=by
 have:Wp (zDs es) λv=>∃c,v=.int .i64 c/\(c=0/\zR2 es\/c=2):=by
  rw[zOP];obtain⟨v,e,b,rfl,p⟩:=zYT es h;refine qk_b e (Wa (λ_=>Wb ⟨_,rfl,.inr rfl⟩) λa=>?_)
  obtain⟨q,g,L,y⟩:=p (by simpa using a)
  have B:NC es:=λj k s t n l r e=>by
   obtain⟨G,C,F,D,I,E,d,_,_,hs,a⟩:=h.1 _ (QE e);cases d;exact⟨hs.2,a.2⟩
  obtain⟨_,z,t,rfl,a⟩:=zb1 y B q g;refine zBV z ?_
  rw[zQK _ a];cases hp:zGB t with
  |error e=>
   obtain⟨e,f⟩:=e;have d:=zNj a hp;show Wp (br (!(e==0&&f==0)) _ _) _
   rw[d];exact Wb ⟨_,rfl,.inr rfl⟩
  |ok u=>
   obtain⟨A,w,H⟩:=zOI hp;show Wp (dK true [K.b] (zAd (u.fl 0) es) _) _
   refine qk_b (zTu _ _ (zGD u 0) h.ue (by rw[RT.fl_length];omega)) (Wa (λh=>Wb ⟨_,rfl,.inr rfl⟩) λh=>Wb ⟨_,rfl,.inl ⟨rfl,u,?_,A,w⟩⟩)
   exact(QP (by simpa using h):u.fl 0=es).symm
 obtain⟨_,e,c,rfl,h⟩:=this;exact⟨c,e,h⟩
def LG(a b:JV)(n:Int)(v:AV):Prop:=∃x,v=.bool x/\(x=true->a.length<=24/\b.length<=32/\0<=n/\n<=999999999999)
theorem zb2{a b:JV}(E:a.length<=2000000)(B:b.length<=2000000)(k n l r:Int):Wp (zBe k a b n l r) (LG a b n):=by
 have g:LG a b n (.bool false):=⟨_,rfl,λh=>by cases h⟩
 have nil:zo a []=true->zo b []=true->∀x:Bool,x=(n==0)->LG a b n (.bool x):=λh1 j x D=>⟨_,rfl,λh=>by
  have h1:=zLq h1;have j:=zLq j;subst h1;subst j;rw[D]at h;have:n=0:=by simpa using h
  subst this
  decide⟩
 have v:∀t,Wp (zBr t k a b n l r) (LG a b n):=λt=>by
  rw[zGb];exact Wa (λ_=>Wa (λh1=>Wa (λj=>Wb (nil h1 j _ rfl)) λ_=>Wb g) λ_=>Wb g) λ_=>Wb g
 have u:∀(d none:Bool)(z:Int)(t:Bool),(d=true->a.length<=24)->Wp (zAG d none z t k a b n l r) (LG a b n):=λd none z t f=>by
  rw[zB1];refine Wa (λ_=>Wa (λ_=>Wa (λh=>Wa (λj=>Wc (λA=>Wb ⟨_,rfl,λp=>⟨f h,?_,A,QP p⟩⟩) λ_=>Wb g) λ_=>Wb g) λ_=>Wb g) λ_=>Wb g) λ_=>?_
  .rw[zLq j];decide
  refine Wa (λ_=>Wa (λ_=>Wa (λh=>Wa (λj=>Wb ⟨_,rfl,λp=>⟨f h,?_,?_⟩⟩) λ_=>Wb g) λ_=>Wb g) λ_=>Wb g) λ_=>?_
  .rw[zLq j];decide
  .have:n=0:=by simpa using p
   subst this;decide
  refine Wa (λ_=>Wa (λh1=>Wa (λj=>Wa (λC=>?_) λ_=>Wb g) λ_=>Wb g) λ_=>Wb g) λ_=>Wa (λ_=>v _) λ_=>v _
  refine Wb ⟨_,rfl,λ_=>?_⟩
  obtain⟨_,e,h⟩:=nil h1 j true C.symm;cases e;exact h rfl
 have w:∀(d none:Bool)(z:Int)(t:Bool),(d=true->a.length<=24)->Wp (zAi d none z t k a b n l r) (LG a b n):=λd none z t f=>by
  rw[zAV];refine Wa (λ_=>Wa (λ_=>Wa (λh=>qk_b (zTv b B) (Wa (λj=>Wb ⟨_,rfl,λp=>⟨f h,?_,?_⟩⟩) λ_=>Wb g)) λ_=>Wb g) λ_=>Wb g) λ_=>Wa (λ_=>u _ _ _ _ f) λ_=>u _ _ _ _ f
  .unfold zQa at j;rw[qr]at j;exact(QP j.2).2
  .have:n=0:=by simpa using p
   subst this;decide
 have y:∀(d:Bool),(d=true->a.length<=24)->Wp (zBt d k a b n l r) (LG a b n):=λd f=>by
  have q:∀none,Wp (zBs d none k a b n l r) (LG a b n):=λnone=>by
   rw[zB2];exact Wa (λ_=>Wa (λ_=>Wa (λh1=>Wa (λj=>Wb (nil h1 j _ rfl)) λ_=>Wb g) λ_=>Wb g) λ_=>Wb g) λ_=>Wa (λ_=>w _ _ _ _ f) λ_=>w _ _ _ _ f
  rw[zDA];exact Wa (λ_=>q _) λ_=>q _
 rw[zEf];refine qk_b (zJJ a 24 E) (Wa (λh=>y _ λ_=>?_) λ_=>y _ λh=>by cases h)
 unfold z9 at h;rw[qr]at h;exact QP h.1
def Shp(es:JE)(m:Nat):Prop:=∀j,j<m->∃k a b n l r,es[j]?=some (nd6 k a b n l r)/\a.length<=24/\b.length<=32/\okS a/\okS b/\0<=n/\n<=999999999999/\-1<=l/\l<j/\-1<=r/\r<j/\(7<=k->0<=l)/\(8<=k->0<=r)
def SzV(es:JE)(j v:Nat):Prop:=1<=v/\v<=65*(j+1)/\(∀d,j<d->zBz d es (ofNat j)=some (.int .i64 (ofNat v))) ∧
 (v<=64->∀d,j<d->∀m:Int,∃s,zq d es (ofNat j) m=some (.str s)/\s.length<=100*v/\okS s)
theorem zYU{d:Nat}{m k n l r:Int}{s a b:JV}(hs:s.length<=7000)(ho:okS s):∃f,zl d m s k a b n l r=some (.str f)/\f.length<=s.length+2/\okS f:=by
 have:Wp (zl d m s k a b n l r) λv=>∃f,v=.str f/\f.length<=s.length+2/\okS f:=by
  rw[zGq];have tg:∃x,zCh k a b n l r=some (.int .i64 x):=by
   have:Wp (zCh k a b n l r) λv=>∃x,v=.int .i64 x:=by
    rw[zG2];exact Wa (λ_=>Wb ⟨_,rfl⟩) λ_=>Wa (λ_=>Wb ⟨_,rfl⟩) λ_=>Wb ⟨_,rfl⟩
   obtain⟨_,e,x,rfl⟩:=this;exact⟨x,e⟩
  obtain⟨x,g⟩:=tg;have h1:([40]++s).length=s.length+1:=by simp
  refine qk_i g (Wc (λ_=>We ?_ (We ?_ (Wb ⟨_,rfl,?_,zAq (zAq (zBN rfl) ho) (zBN rfl)⟩))) λ_=>Wb ⟨_,rfl,by omega,ho⟩)
  .show 1+s.length<=zh;unfold zh;omega
  .rw[h1];show s.length+1+1<=zh;unfold zh;omega
  .rw[QC,h1];exact QA _
 obtain⟨_,e,f,rfl,h⟩:=this;exact⟨f,e,h⟩
theorem zf7{es:JE}{m:Nat}(h:Shp es m)(hm:m<=64):∀j,j<m->∃v,SzV es j v:=by
 intro j
 induction j using Nat.strongRecOn with
 |ind j ih=>
 intro hj;obtain⟨k,a,b,n,l,r,e,la,lb,G,R,Y,n1,l1,l2,r1,r2,U,k8⟩:=h j hj;have Q:∀x:Int,-1<=x->x<j->∃v:Nat,(x<0/\v=0)\/∃c:Nat,x=ofNat c/\c<j/\SzV es c v:=λx h1 C=>by
  by_cases B:x<0
  .exact⟨0,.inl ⟨B,rfl⟩⟩
  .obtain⟨c,rfl⟩:=Int.eq_ofNat_of_zero_le (show 0<=x by omega)
   obtain⟨v,y⟩:=ih c (by omega) (by omega)
   exact⟨v,.inr ⟨c,rfl,by omega,y⟩⟩
 obtain⟨f,H⟩:=Q l l1 l2;obtain⟨z,I⟩:=Q r r1 r2;have bl:f<=65*j:=by
  rcases H with⟨_,h⟩|⟨c,_,hc,y⟩
  .omega
  .have:=y.2.1;omega
 have aa:z<=65*j:=by
  rcases I with⟨_,h⟩|⟨c,_,hc,y⟩
  .omega
  .have:=y.2.1;omega
 refine⟨1+f+(if 1+f<=64 then z else 0),by omega,by split<;>omega,λd hd=>?_,λE d hd m=>?_⟩
 .obtain⟨d,rfl⟩:∃x,d=x+1:=⟨d-1,by omega⟩
  have X:∀A:Nat,A=1+f->Wp (zCY d es (ofNat j) (ofNat A)) λv=>v=.int .i64 (ofNat (1+f+(if 1+f<=64 then z else 0))):=λA L=>by
   subst L;rw[zB9];have V:∀t:Bool,(t=true->0<=r/\1+f<=64)->(t=false->r<0\/64<1+f)->Wp (zCX d es (ofNat j) (ofNat (1+f)) t) λv=>v=.int .i64 (ofNat (1+f+(if 1+f<=64 then z else 0))):=λt h1 C=>by
    rw[zB8];refine Wa (λJ=>zBj e ?_) λJ=>?_
    .obtain⟨D,F⟩:=h1 J;rcases I with⟨h5,_⟩|⟨c,rfl,hc,y⟩
     .omega
     .refine qk_i (y.2.2.1 d (by omega)) ?_
      rw[zA6,if_pos F];refine Wb ?_
      rw[zm (by rw[qJ,qJ];omega) (by rw[qJ,qJ];omega),qJ,qJ,qJ]
      congr 1
    .rw[zA6];refine Wb ?_
     rcases C J with D|D
     .rcases I with⟨_,h⟩|⟨c,rfl,_,_⟩
      .subst h;simp
      .exact absurd (QU c) (by rw[qJ]at D;omega)
     .rw[if_neg (by omega)];rfl
   refine zBj e (Wc (λB=>V _ (λh=>⟨B,?_⟩) λh=>.inr ?_) λB=>V _ (λh=>by cases h) λ_=>.inl (by omega))
   .have h:=QP h;rw[qJ]at h;omega
   .have h:=Qk h;rw[qJ]at h;omega
  refine zf ?_
  rw[zC3];refine zBj e (Wc (λB=>zBj e ?_) λB=>?_)
  .rcases H with⟨h,_⟩|⟨c,rfl,hc,y⟩
   .omega
   .refine qk_i (y.2.2.1 d (by omega)) ?_
    have:wrapx .i64 (ofNat 1+ofNat f)=ofNat (1+f):=by
     rw[zm (by rw[qJ,qJ];omega) (by rw[qJ,qJ];omega),qJ,qJ,qJ];omega
    rw[this];exact X _ rfl
  .rcases H with⟨_,h⟩|⟨c,rfl,_,_⟩
   .exact X 1 (by omega)
   .exact absurd (QU c) B
 .have L:1+f<=64:=by split at E<;>omega
  rw[if_pos L]at E⊢;obtain⟨d,rfl⟩:∃x,d=x+1:=⟨d-1,by omega⟩
  have tl:∀m:Int,0<=l->∃s,zq d es l m=some (.str s)/\s.length<=100*f/\okS s:=λm B=>by
   rcases H with⟨h,_⟩|⟨c,rfl,hc,y⟩
   .omega
   .exact y.2.2.2 (by omega) d (by omega) m
  have tr:∀m:Int,0<=r->∃s,zq d es r m=some (.str s)/\s.length<=100*z/\okS s:=λm B=>by
   rcases I with⟨h,_⟩|⟨c,rfl,hc,y⟩
   .omega
   .exact y.2.2.2 (by omega) d (by omega) m
  have key:Wp (zq (d+1) es (ofNat j) m) λv=>∃s,v=.str s/\s.length<=100*(1+f+z)/\okS s:=by
   have w:∀s:JV,s.length<=100*(1+f+z)-2->okS s->Wp (zl d m s k a b n l r) λv=>∃s,v=.str s/\s.length<=100*(1+f+z)/\okS s:=λs h1 C=>by
    obtain⟨s',O,D,F⟩:=zYU (d:=d) (m:=m) (k:=k) (n:=n) (l:=l) (r:=r) (a:=a) (b:=b) (by omega) C
    exact⟨_,O,s',rfl,by omega,F⟩
   have nn:∃x:Nat,n=(x:Int):=Int.eq_ofNat_of_zero_le Y;obtain⟨x,rfl⟩:=nn;have S:=zUM x (by omega) ze (zk (by omega))
   have dl:=zNC x (by omega)
   have T:okS (dec x):=by rw[←zXV];exact zZD _
   rw[zC4];refine zBj e ?_
   refine Wa (λ_=>w _ (by show 3<=_;omega) (zBN rfl)) λ_=>?_
   refine Wa (λ_=>We ?_ (We ?_ (w _ ?_ (zAq (zAq G (zBN rfl)) R)))) λ_=>?_
   iterate 3 (simp only[QC,QL,QZ];first|omega|(unfold zh;omega))
   refine Wa (λ_=>We ?_ (We ?_ (w _ ?_ (zAq (zAq G (zBN rfl)) R)))) λ_=>?_
   iterate 3 (simp only[QC,QL,QZ];first|omega|(unfold zh;omega))
   refine Wa (λ_=>We ?_ (zBV S (We ?_ (w _ ?_ (zAq (zAq G (zBN rfl)) T))))) λ_=>?_
   iterate 3 (simp only[QC,QL,QZ];first|omega|(unfold zh;omega))
   refine Wa (λ_=>We ?_ (zBV S (We ?_ (w _ ?_ (zAq (zAq G (zBN rfl)) T))))) λ_=>?_
   iterate 3 (simp only[QC,QL,QZ];first|omega|(unfold zh;omega))
   refine Wa (λ_=>w _ (by omega) G) λ_=>?_
   refine Wa (λhk=>?_) λ_=>?_
   .have hk:k=7:=by simpa using hk
    obtain⟨s,hs,h1,C⟩:=tl (ofNat 2) (U (by omega))
    refine zBV hs (We ?_ (w _ ?_ (zAq (zBN rfl) C)))
    iterate 2 (simp only[QC,QL,QZ];first|omega|(unfold zh;omega))
   have two:8<=k->∀(p q:Int)(g:JV),g.length=3->okS g->Wp (dK false [K.s] (zq d es l p) λM=>gd (decide (List.length M+List.length g<=zh)) (dK false [K.s] (zq d es r q) λW=>gd (decide (List.length (M++g)+List.length W<=zh)) (zl d m (M++g++W) k a b x l r))) λv=>∃s,v=.str s/\s.length<=100*(1+f+z)/\okS s:=λhk p q g g1 g2=>by
    obtain⟨s,hs,h1,C⟩:=tl p (U (by omega))
    obtain⟨u,hu,D,F⟩:=tr q (k8 (by omega))
    refine zBV hs (We ?_ (zBV hu (We ?_ (w _ ?_ (zAq (zAq C g2) F)))))
    iterate 3 (simp only[QC,g1];first|omega|(unfold zh;omega))
   refine Wa (λhk=>two (by have:k=8:=(by simpa using hk);omega) _ _ _ rfl (zBN rfl)) λ_=>?_
   refine Wa (λhk=>two (by have:k=9:=(by simpa using hk);omega) _ _ _ rfl (zBN rfl)) λ_=>?_
   exact w _ (QI _) (zBN rfl)
  obtain⟨_,O,s,rfl,h⟩:=key;exact⟨s,O,h⟩
theorem ze9{es:JE}(h:Nds es):∃c,zZ es=some (.int .i64 c)/\(c=0/\zR2 es\/c=2):=by
 have bad:Wp (some (AV.int .i64 (ofNat 2))) λv=>∃c,v=.int .i64 c/\(c=0/\zR2 es\/c=2):=Wb ⟨_,rfl,.inr rfl⟩
 have loop:0<es.length->es.length<=64->∀(n i:Nat),i<=es.length->es.length-i<n->Shp es i->Wp (zH n (ofNat es.length) (ofNat i) es) λv=>∃c,v=.int .i64 c/\(c=0/\zR2 es\/c=2):=by
  intro E z n
  induction n with
  |zero=>intro i _ h;omega
  |succ n M=>
   intro i U V A;rw[zFE];refine Wd (λa=>?_) λB=>?_
   .obtain⟨k,s,t,nn,l,r,e,S,n1,hs,g⟩:=h.1 _ (QR a);have p:es[i]?=some (nd6 k s t nn l r):=by rw[QF a,e]
    refine zBj p ?_
    obtain⟨_,I,b,rfl,H⟩:=zb2 hs.1 g.1 k nn l r;refine qk_b I (Wa (λ_=>bad) λy=>Wc (λ_=>bad) λW=>Wc (λ_=>bad) λa2=>Wc (λ_=>bad) λa3=>Wc (λ_=>bad) λa4=>?_)
    obtain⟨C,O,b3,Q⟩:=H (by simpa using y)
    have next:(7<=k->0<=l)->(8<=k->0<=r)->Wp (zH n (ofNat es.length) (wrapx .i64 (ofNat i+1)) es) λv=>∃c,v=.int .i64 c/\(c=0/\zR2 es\/c=2):=λG F=>by
     rw[zd (by omega)]
     refine M (i+1) a (by omega) λj R=>?_
     by_cases q:j<i
     .exact A j q
     .have:j=i:=by omega
      subst this;rw[qJ]at a2 a4;exact⟨k,s,t,nn,l,r,p,C,O,hs.2,g.2,b3,Q,by omega,by omega,by omega,by omega,G,F⟩
    refine Wc (λw=>Wc (λ_=>bad) λc1=>Wc (λh8=>Wc (λ_=>bad) λc2=>?_) λh8=>?_) λw=>Wc (λh8=>?_) λh8=>?_
    .exact next (λ_=>by omega) λ_=>by omega
    .exact next (λ_=>by omega) λh=>absurd h h8
    .exact absurd (show(7:Int)<=k by omega) w
    .exact next (λh=>absurd h w) λh=>absurd h h8
   .have:i=es.length:=by omega
    subst this;rw[zA8 E (by omega)]
    obtain⟨v,v1,v2,v3,v4⟩:=zf7 A z (es.length-1) (by omega)
    refine qk_i (v3 ze (zk (by omega))) (Wa (λ_=>bad) λd=>?_)
    have d:v=es.length:=by
     have d:(ofNat v==ofNat es.length)=true:=by
      cases e:(ofNat v==ofNat es.length)with
      |true=>rfl
      |false=>rw[bne,e]at d;cases d
     exact zIu.1 d
    obtain⟨t,e,_,g⟩:=v4 (by omega) ze (zk (by omega)) (ofNat 0)
    refine zBV e ?_
    rw[zWn];cases hp:zGB t with
    |error e=>
     obtain⟨e,f⟩:=e;have p:=zNj g hp;show Wp (br (!(e==0&&f==0)) _ _) _
     rw[p];exact bad
    |ok u=>
     obtain⟨L,J,T⟩:=zOI hp;show Wp (dK true [K.b] (zBA (u.fl 0) es) _) _
     refine qk_b (zP9 _ _ (zGD u 0) h.ue (by rw[RT.fl_length];omega)) (Wa (λ_=>bad) λh=>Wb ⟨_,rfl,.inl ⟨rfl,u,?_,L,J⟩⟩)
     exact(QP (by simpa using h):u.fl 0=es).symm
 have:Wp (zZ es) λv=>∃c,v=.int .i64 c/\(c=0/\zR2 es\/c=2):=by
  rw[zG3];refine Wc (λ_=>bad) λh1=>Wc (λ_=>bad) λD=>?_
  rw[qJ]at h1 D;rw[zGd];exact loop (by omega) (by omega) ze 0 (QI _) (zk (by omega)) λj R=>by omega
 obtain⟨_,e,c,rfl,h⟩:=this;exact⟨c,e,h⟩
theorem zRI{es:JE}(h:Nds es):∃c,zDs es=some (.int .i64 c)/\zZ es=some (.int .i64 c)/\(c=0/\(∃t:RT,es=t.fl 0/\t.wf/\t.size<=64)\/c=2):=by
 obtain⟨c,hc,h1⟩:=zdh h;obtain⟨d,j,f⟩:=ze9 h;by_cases e:zR2 es
 .obtain⟨t,rfl,b,a⟩:=e;have g:=zWB t b a;have k:=zX6 t b a;rw[hc]at g;cases g;refine⟨_,hc,k,h1.imp (λh=>⟨h.1,t,rfl,b,a⟩) id⟩
 .rcases h1 with⟨_,h1⟩|rfl
  .exact absurd h1 e
  rcases f with⟨_,f⟩|rfl
  .exact absurd f e
  exact⟨2,hc,j,.inr rfl⟩
structure Am where
 a:Int
 b:Int
 c:Int
 d:Int
def Am.av(x:Am):AV:=am x.a x.b x.c x.d
abbrev Am.ok(x:Am):Prop:=okA x.a x.b x.c x.d
abbrev Am.le(x y:Am):Prop:=zFp x.a x.b x.c x.d y.a y.b y.c y.d
def Am.z:Am:=⟨0,0,0,0⟩
def Am.add(x y:Am):Am:=⟨x.a+y.a,x.b+y.b,x.c+y.c,x.d+y.d⟩
def Am.sub(x y:Am):Am:=⟨x.a-y.a,x.b-y.b,x.c-y.c,x.d-y.d⟩
theorem Am.eta{x y:Am}(h1:x.a=y.a)(e:x.b=y.b)(g:x.c=y.c)(f:x.d=y.d):x=y:=by
 cases x;cases y;cases h1;cases e;cases g;cases f;rfl
def zR3(x y:Am):Am×Int:=if x.ok/\y.ok then if(x.add y).ok then(x.add y,0)else(.z,9)else(.z,2)
def zHR(x y:Am):Am×Int:=if x.ok/\y.ok then if y.le x then(x.sub y,0)else(.z,14)else(.z,2)
def amE(r:Am×Int):AV:=.qc [r.1.av,.int .i64 r.2]
theorem zX8(n i:Nat)(es:JE)(a b c d:Int)(h:i<es.length)(e:es[i]=am a b c d)(f:es.length<=2000000):zCy (n+1) es (ofNat es.length) (ofNat i)=if okA a b c d then zCy n es (ofNat es.length) (ofNat (i+1))else some (.bool false):=by
 rw[zKL,show decide (ofNat i<ofNat es.length)=true from QM (Int.ofNat_lt.2 h),zJ4,zAS h,e,zbP,zIH,zhQ,zd (by omega)]
 split<;>rfl
theorem zfa(n:Nat)(es:JE):zCy (n+1) es (ofNat es.length) (ofNat es.length)=some (.bool true):=by
 rw[zKL,show decide (ofNat es.length<ofNat es.length)=false from QJ (Int.lt_irrefl _),zAP]
theorem zQL(a b c d f h c' g:Int):zIL [am a b c d,am f h c' g]=some (.bool (decide (okA a b c d/\okA f h c' g))):=by
 rw[zSM,show ze=1180591620717411303421+1+1+1 from zE3,zX8 _ 0 [am a b c d,am f h c' g] a b c d (by simp) rfl (by simp),zX8 _ 1 [am a b c d,am f h c' g] f h c' g (by simp) rfl (by simp)]
 have e:=zfa 1180591620717411303421 [am a b c d,am f h c' g];have e:zCy (1180591620717411303421+1) [am a b c d,am f h c' g] (ofNat [am a b c d,am f h c' g].length) (ofNat (1+1))=some (.bool true):=e;rw[e];by_cases h1:okA a b c d<;>by_cases j:okA f h c' g<;>simp[h1,j]
theorem zMz(a b c d e g c' f:Int):zF6 a b c d e g c' f=some (.bool (decide (zFp a b c d e g c' f))):=by
 refine zf ?_
 rw[zRV];refine zCC (zBT ..) (zCC (zBT ..) ?_)
 repeat' first|refine Wc (λ_=>?_) (λ_=>?_)|refine Wb ?_
 all_goals (first|rw[QJ (by unfold zFp;omega)]|rw[QM (by unfold zFp;omega)])
theorem zX9(x y:Am):zLC x.a x.b x.c x.d y.a y.b y.c y.d=some (amE (zHR x y)):=by
 refine zf ?_
 rw[zSN];refine qk_b (zQL ..) (Wa (λh=>Wb ?_) λh=>?_)
 .have h:¬(x.ok/\y.ok):=Qk (by rw[←Bool.not_eq_true'];exact h)
  unfold zHR;rw[if_neg h];rfl
 have h:x.ok/\y.ok:=QP (by rw[←Bool.not_eq_false'];exact h)
 unfold zHR;rw[if_pos h];refine qk_b (zMz ..) (Wa (λe=>Wb ?_) λe=>?_)
 .have e:¬y.le x:=by simpa using e
  rw[if_neg e];rfl
 have e:y.le x:=by simpa using e
 rw[if_pos e];refine zCC (zBT ..) (zCC (zBT ..) ?_)
 rw[zQl];refine zCC (zHx ..) (Wb ?_)
 unfold Am.ok okA at h;rw[zm (by omega) (by omega),zm (by omega) (by omega),zm (by omega) (by omega),zm (by omega) (by omega)]
 rfl
theorem zYa(x y:Am):zLD x.a x.b x.c x.d y.a y.b y.c y.d=some (amE (zR3 x y)):=by
 refine zf ?_
 rw[zSP];refine qk_b (zQL ..) (Wa (λh=>Wb ?_) λh=>?_)
 .have h:¬(x.ok/\y.ok):=Qk (by rw[←Bool.not_eq_true'];exact h)
  unfold zR3;rw[if_neg h];rfl
 have h:x.ok/\y.ok:=QP (by rw[←Bool.not_eq_false'];exact h)
 unfold zR3;rw[if_pos h];refine zCC (zBT ..) (zCC (zBT ..) ?_)
 have f:=h;unfold Am.ok okA at f;rw[zm (n:=1099511627776-y.a) (by omega) (by omega),zm (n:=1099511627776-y.b) (by omega) (by omega),zm (n:=1099511627776-y.c) (by omega) (by omega),zm (n:=1099511627776-y.d) (by omega) (by omega)]
 have no:¬(x.add y).ok->Wp (some (AV.qc [am 0 0 0 0,.int .i64 9])) λv=>v=amE (if(x.add y).ok then(x.add y,0)else(.z,9)):=λh=>Wb (by rw[if_neg h];rfl)
 have e:(x.add y).ok↔x.a+y.a<=1099511627776/\x.b+y.b<=1099511627776/\x.c+y.c<=1099511627776/\x.d+y.d<=1099511627776:=by
  unfold Am.ok okA Am.add;simp only;omega
 refine Wc (λq=>no (by rw[e];omega)) λq1=>Wc (λq=>no (by rw[e];omega)) λk=>Wc (λq=>no (by rw[e];omega)) λj=>Wc (λq=>no (by rw[e];omega)) λg=>?_
 rw[if_pos (e.2 (by omega)),zQm]
 refine zCC (zHx ..) (Wb ?_)
 rw[zm (by omega) (by omega),zm (by omega) (by omega),zm (by omega) (by omega),zm (by omega) (by omega)]
 rfl
theorem zSy(a b c d:Int):zBd a b c d=some (.int .i64 (if okA a b c d then 0 else 2)):=by
 have k:∀{l:JE},l=[.int .i64 a,.int .i64 b,.int .i64 c,.int .i64 d]->zAE ze l (ofNat 0)=some (.int .i64 (if okA a b c d then 0 else 2)):=λ{l} g=>by
  rw[show ze=1180591620717411303419+1+1+1+1+1 from zE3,zSw (x:=a) (by rw[g];rfl) (by omega),zSw (x:=b) (by rw[g];rfl) (by omega),zSw (x:=c) (by rw[g];rfl) (by omega),zSw (x:=d) (by rw[g];rfl) (by omega),zGa,QJ (show ¬ofNat (0+1+1+1+1)<4 by decide)]
  by_cases h:okA a b c d
  .obtain⟨h1,e,f,j⟩:=h;rw[if_pos h1,if_pos e,if_pos f,if_pos j,if_pos ⟨h1,e,f,j⟩];rfl
  .rw[if_neg h];by_cases h1:0<=a/\a<=1099511627776
   .rw[if_pos h1];by_cases e:0<=b/\b<=1099511627776
    .rw[if_pos e];by_cases f:0<=c/\c<=1099511627776
     .rw[if_pos f,if_neg λj=>h ⟨h1,e,f,j⟩]
     .rw[if_neg f]
    .rw[if_neg e]
   .rw[if_neg h1]
 rw[zMo,z4];exact k rfl
theorem zVy(l:List Am)(r:l.length<=2000000):zCi (l.map Am.av)=some (.bool (!decide (∀x∈l,x.ok))):=by
 have loop:∀(n i:Nat),i<=l.length->l.length-i<n->zCG n (l.map Am.av) (ofNat i)=some (.bool (!decide (∀x∈l.drop i,x.ok))):=by
  intro n
  induction n with
  |zero=>intro i _ h;omega
  |succ n p=>
   intro i t u;refine zf ?_
   rw[zKT,QG];refine Wd (λh=>?_) λg=>Wb ?_
   .refine zCC (show ixN (l.map Am.av) (ofNat i)=some (am l[i].a l[i].b l[i].c l[i].d)from zIF h) (qk_i (zSy ..) ?_)
    have k:l.drop i=l[i]::l.drop (i+1):=QO h;by_cases f:l[i].ok
    .rw[if_pos f];refine Wf rfl<|?_
     rw[zd (by omega),p (i+1) h (by omega)]
     refine Wb ?_
     rw[k];congr 2;exact decide_eq_decide.2 ⟨λq x j=>(QH.1 j).elim (λe=>e▸f) (q x),λq x j=>q x (.tail _ j)⟩
    .rw[if_neg f];refine Wa (λe=>Wb ?_) λe=>by cases e
     rw[QJ λq=>f (q _ (by rw[k];exact .head _))];rfl
   .rw[QW g,QM (by simp)];rfl
 rw[zMr];exact loop ze 0 (QI _) (zk (by omega))
theorem zQc{l m:JE}{n i:Nat}{x y:Int}(b:l[i]?=some (.int .i64 x))(hm:m[i]?=some (.int .i64 y))(d:i<4):zBK (n+1) l m (ofNat i)=if x<=y then zBK n l m (ofNat (i+1))else some (.bool false):=by
 rw[zGr,zJ5,zJ5,b,hm,zd (by omega),QM (show ofNat i<4 by rw[qJ];omega)]
 show br (decide (x > y)) _ _=_
 by_cases a:x<=y
 .rw[QJ (by omega),if_pos a];rfl
 .rw[QM (by omega),if_neg a];rfl
theorem zUO(a b c d f g c' k:Int):zBB a b c d f g c' k=some (.bool (decide (zFp a b c d f g c' k))):=by
 rw[zMQ,z4,z4];show zEE [.int .i64 a,.int .i64 b,.int .i64 c,.int .i64 d] [.int .i64 f,.int .i64 g,.int .i64 c',.int .i64 k]=_
 rw[zLi,show ze=1180591620717411303419+1+1+1+1+1 from zE3,zQc (x:=a) (y:=f) rfl rfl (by omega),zQc (x:=b) (y:=g) rfl rfl (by omega),zQc (x:=c) (y:=c') rfl rfl (by omega),zQc (x:=d) (y:=k) rfl rfl (by omega),zGr,QJ (show ¬ofNat (0+1+1+1+1)<4 by decide)]
 by_cases h:zFp a b c d f g c' k
 .obtain⟨h1,e,j,p⟩:=h;rw[if_pos h1,if_pos e,if_pos j,if_pos p,QM ⟨h1,e,j,p⟩];rfl
 .rw[QJ h];by_cases h1:a<=f
  .rw[if_pos h1];by_cases e:b<=g
   .rw[if_pos e];by_cases j:c<=c'
    .rw[if_pos j,if_neg λp=>h ⟨h1,e,j,p⟩]
    .rw[if_neg j]
   .rw[if_neg e]
  .rw[if_neg h1]
theorem zgr(a b c d:Int):zEs [.int .i64 a,.int .i64 b,.int .i64 c,.int .i64 d]=some (am a b c d):=by rw[zOe];rfl
theorem zb3(x y:Am):(!decide (∀u∈[x,y],u.ok))=!decide (x.ok/\y.ok):=by
 congr 1;exact decide_eq_decide.2 (by simp)
theorem zgP(x y:Am):zGl x.a x.b x.c x.d y.a y.b y.c y.d=some (amE (zHR x y)):=by
 refine zf ?_
 rw[zNt];refine qk_b (zVy [x,y] (by simp)) ?_
 rw[zb3];refine Wa (λh=>Wb ?_) λh=>?_
 .have h:¬(x.ok/\y.ok):=Qk (by rw[←Bool.not_eq_true'];exact h)
  unfold zHR;rw[if_neg h];rfl
 have h:x.ok/\y.ok:=QP (by rw[←Bool.not_eq_false'];exact h)
 unfold zHR;rw[if_pos h];refine qk_b (zUO ..) (Wa (λe=>Wb ?_) λe=>?_)
 .have e:¬y.le x:=by simpa using e
  rw[if_neg e];rfl
 have e:y.le x:=by simpa using e
 rw[if_pos e];refine zG8 (z4 ..) (zG8 (z4 ..) ?_)
 rw[zLN,zLM];refine zCC (zgr ..) (Wb ?_)
 unfold Am.ok okA at h;rw[zm (by omega) (by omega),zm (by omega) (by omega),zm (by omega) (by omega),zm (by omega) (by omega)]
 rfl
theorem zdS(x y:Am):zD5 x.a x.b x.c x.d y.a y.b y.c y.d=some (amE (zR3 x y)):=by
 refine zf ?_
 rw[zNr];refine qk_b (zVy [x,y] (by simp)) ?_
 rw[zb3];refine Wa (λh=>Wb ?_) λh=>?_
 .have h:¬(x.ok/\y.ok):=Qk (by rw[←Bool.not_eq_true'];exact h)
  unfold zR3;rw[if_neg h];rfl
 have h:x.ok/\y.ok:=QP (by rw[←Bool.not_eq_false'];exact h)
 unfold zR3;rw[if_pos h];refine zG8 (z4 ..) (zG8 (z4 ..) ?_)
 rw[zLL];have f:=h;unfold Am.ok okA at f;rw[zm (n:=x.a+y.a) (by omega) (by omega),zm (n:=x.b+y.b) (by omega) (by omega),zm (n:=x.c+y.c) (by omega) (by omega),zm (n:=x.d+y.d) (by omega) (by omega)]
 have no:¬(x.add y).ok->Wp (some (AV.qc [am 0 0 0 0,.int .i64 9])) λv=>v=amE (if(x.add y).ok then(x.add y,0)else(.z,9)):=λh=>Wb (by rw[if_neg h];rfl)
 have e:(x.add y).ok↔x.a+y.a<=1099511627776/\x.b+y.b<=1099511627776/\x.c+y.c<=1099511627776/\x.d+y.d<=1099511627776:=by
  unfold Am.ok okA Am.add;simp only;omega
 refine Wc (λq=>no (by rw[e];omega)) λq1=>Wc (λq=>no (by rw[e];omega)) λk=>Wc (λq=>no (by rw[e];omega)) λj=>Wc (λq=>no (by rw[e];omega)) λg=>?_
 rw[if_pos (e.2 (by omega)),zLK]
 exact zCC (zgr ..) (Wb rfl)
def tot:List Am->Am
 |[]=>.z
 |x::l=>x.add (tot l)
theorem Am.add_assoc(x y z:Am):(x.add y).add z=x.add (y.add z):=Am.eta (Int.add_assoc ..) (Int.add_assoc ..) (Int.add_assoc ..) (Int.add_assoc ..)
theorem Am.uM(x:Am):x.add .z=x:=Am.eta (Int.add_zero _) (Int.add_zero _) (Int.add_zero _) (Int.add_zero _)
theorem Am.uK(x:Am):Am.z.add x=x:=Am.eta (Int.zero_add _) (Int.zero_add _) (Int.zero_add _) (Int.zero_add _)
def Am.nn(x:Am):Prop:=0<=x.a/\0<=x.b/\0<=x.c/\0<=x.d
theorem Am.ok.nn{x:Am}(h:x.ok):x.nn:=⟨h.1.1,h.2.1.1,h.2.2.1.1,h.2.2.2.1⟩
theorem Am.nn.add{x y:Am}(h:x.nn)(k:y.nn):(x.add y).nn:=by unfold Am.nn Am.add at *;simp only;omega
theorem zUP:∀{l:List Am},(∀x∈l,x.ok)->(tot l).nn
 |[],_=>⟨Int.le_refl _,Int.le_refl _,Int.le_refl _,Int.le_refl _⟩
 |x::l,h=>(h x (.head _)).nn.add (zUP λy a=>h y (.tail _ a))
theorem zb4{x y:Am}(h:(x.add y).ok)(hx:x.nn)(a:y.nn):x.ok:=by
 unfold Am.ok okA Am.nn Am.add at *;simp only at h;omega
theorem zgQ(l:List Am)(r:l.length<=2000000)(ho:∀x∈l,x.ok):zGk (l.map Am.av)=some (amE (if(tot l).ok then(tot l,0)else(.z,9))):=by
 have loop:∀(n i:Nat)(x:Am),x.ok->i<=l.length->l.length-i<n->zC0 n (l.map Am.av) (ofNat i) x.a x.b x.c x.d (ofNat 0) (ofNat 0) (ofNat 0) (ofNat 0)=some (amE (if(x.add (tot (l.drop i))).ok then(x.add (tot (l.drop i)),0)else(.z,9))):=by
  intro n
  induction n with
  |zero=>intro i _ _ _ h;omega
  |succ n u=>
   intro i x j v w;refine zf ?_
   rw[zLh,QG];refine Wd (λh=>?_) λg=>Wb ?_
   .have f:=ho _ (QR h);have k:l.drop i=l[i]::l.drop (i+1):=QO h;have p:(tot (l.drop (i+1))).nn:=zUP λy t=>ho y (Qc t)
    refine zCC (show ixN (l.map Am.av) (ofNat i)=some (am l[i].a l[i].b l[i].c l[i].d)from zIF h) (zNV (zdS x l[i]) ?_)
    have e:x.add (tot (l.drop i))=(x.add l[i]).add (tot (l.drop (i+1))):=by rw[k,Am.add_assoc];rfl
    rw[e];unfold zR3;rw[if_pos ⟨j,f⟩];by_cases hs:(x.add l[i]).ok
    .rw[if_pos hs];refine Wf rfl<|?_
     rw[zd (by omega)]
     exact⟨_,u (i+1) (x.add l[i]) hs h (by omega),rfl⟩
    .rw[if_neg hs];refine Wt rfl (Wb ?_)
     rw[if_neg λq=>hs (zb4 q (j.nn.add f.nn) p)];rfl
   .rw[QW g];show _=amE (if(x.add .z).ok then(x.add .z,0)else _)
    rw[Am.uM,if_pos j];rfl
 refine zf ?_
 rw[zNs];refine qk_b (zVy l r) ?_
 rw[QM ho];refine Wf rfl<|?_
 refine⟨_,loop ze 0 .z (by unfold Am.ok okA Am.z;decide) (QI _) (zk (by omega)),?_⟩
 rw[List.drop_zero,Am.uK]
def tk(j:JV)(i:Int):Bool:=z9 16 j&&decide (0<=i/\i<64)
def nmT(j:JV)(i:Int):JV:=if tk j i=true then j++[46]++dec i.toNat else[]
theorem zdi(n:Nat)(h:n<64):zPy (n:Int)=some (.str (dec n)):=by
 show(match Nat.blt n 100 with|true=>some (AV.str (zaM n))|false=>none)=_
 rw[show Nat.blt n 100=true from by rw[Ql];omega]
 rfl
theorem zdj(n:Nat)(g:n<=9223372036854775807):∀d:Nat,n<d->zDm d (n:Int)=some (.str (dec n)):=by
 induction n using Nat.strongRecOn with
 |ind n b=>
  intro d f;obtain⟨d,rfl⟩:∃k,d=k+1:=⟨d-1,by omega⟩
  refine zf ?_
  rw[zLJ];refine Wc (λh=>?_) λh=>?_
  .have h:n<10:=by omega
   rw[zP5 n h,zRF,if_pos h];exact Wb rfl
  .have h:¬n<10:=by omega
   have a:wrapx .i64 (Int.tdiv (n:Int) 10)=((n / 10:Nat):Int):=by
    rw[show Int.tdiv (n:Int) 10=((n / 10:Nat):Int)from rfl,zm (by omega) (by omega)]
   have e:Int.tmod (n:Int) 10=((n % 10:Nat):Int):=rfl;rw[a,e];refine zBV (b (n / 10) (by omega) (by omega) d (by omega)) ?_
   rw[zP5 (n % 10) (Nat.mod_lt n (by decide)),zRF n,if_neg h]
   have:=zNC (n / 10) (by omega)
   refine We ?_ (Wb rfl)
   show(dec (n / 10)).length+1<=zh
   unfold zh;omega
theorem zWr{s:JV}(h:z9 16 s=true):s.length<=16:=by
 unfold z9 at h;simp only[qr,decide_eq_true_eq]at h;exact h.1
theorem zQd(j:JV)(a:j.length<=2000000)(i:Int):zIi j i=some (.qc [.str (nmT j i),.int .i64 (if tk j i=true then 0 else 2)]):=by
 have no:tk j i=false->Wp (some (AV.qc [.str [],.int .i64 2])) λv=>v=.qc [.str (nmT j i),.int .i64 (if tk j i=true then 0 else 2)]:=λh=>Wb (by unfold nmT;rw[h];rfl)
 refine zf ?_
 rw[zU6];refine qk_b (zVx j a) (Wa (λh=>no ?_) λh=>Wc (λb=>no ?_) λb=>Wc (λh1=>no ?_) λh1=>?_)
 .have h:z9 16 j=false:=by simpa using h
  unfold tk;rw[h];rfl
 .unfold tk;rw[QJ (by omega),Bool.and_false]
 .unfold tk;rw[QJ (by omega),Bool.and_false]
 have h:z9 16 j=true:=by simpa using h
 obtain⟨n,rfl⟩:=Int.eq_ofNat_of_zero_le (show 0<=i by omega)
 have d:tk j (n:Int)=true:=by unfold tk;rw[h,QM (by omega)];rfl
 have f:=zWr h;have e:=zNC n (by omega)
 rw[zRU];refine We ?_ (zBV (zdi n (by omega)) (We ?_ (Wb ?_)))
 .simp only[QL,QZ,zh];omega
 .simp only[QC,QL,QZ,zh];omega
 .unfold nmT;rw[d,if_pos rfl,if_pos rfl,Int.toNat_natCast];rfl
theorem zf8(j:JV)(a:j.length<=2000000)(i:Int):zFJ j i=some (.qc [.str (nmT j i),.int .i64 (if tk j i=true then 0 else 2)]):=by
 have no:tk j i=false->Wp (some (AV.qc [.str [],.int .i64 2])) λv=>v=.qc [.str (nmT j i),.int .i64 (if tk j i=true then 0 else 2)]:=λh=>Wb (by unfold nmT;rw[h];rfl)
 refine zf ?_
 rw[zMO];refine qk_b (zRH j a) (Wa (λh=>no ?_) λh=>Wc (λb=>no ?_) λb=>Wc (λh1=>no ?_) λh1=>?_)
 .have h:z9 16 j=false:=by simpa using h
  unfold tk;rw[h];rfl
 .unfold tk;rw[QJ (by omega),Bool.and_false]
 .unfold tk;rw[QJ (by omega),Bool.and_false]
 have h:z9 16 j=true:=by simpa using h
 obtain⟨n,rfl⟩:=Int.eq_ofNat_of_zero_le (show 0<=i by omega)
 have d:tk j (n:Int)=true:=by unfold tk;rw[h,QM (by omega)];rfl
 have f:=zWr h;have e:=zNC n (by omega)
 rw[zLg];refine We ?_ (zBV (zdj n (by omega) ze (zk (by omega))) (We ?_ (Wb ?_)))
 .simp only[QL,QZ,zh];omega
 .simp only[QC,QL,QZ,zh];omega
 .unfold nmT;rw[d,if_pos rfl,if_pos rfl,Int.toNat_natCast];rfl
theorem zRJ(j:JV)(a:j.length<=2000000)(i:Int):zAa j i=some (.str (nmT j i)):=by
 refine zf ?_
 rw[zMP];exact zSp (zf8 j a i) (Wb rfl)
def val(l:JV):Nat:=l.foldl (λx c=>10*x+(c-48)) 0
theorem zZE(n:Nat):val (dec n)=n:=by
 induction n using Nat.strongRecOn with
 |ind n a=>
  rw[zRF];by_cases h:n<10
  .rw[if_pos h];show 10*0+(48+n-48)=n;omega
  .rw[if_neg h];have:=a (n / 10) (by omega)
   unfold val at this⊢;rw[List.foldl_append,this];show 10*(n / 10)+(48+n % 10-48)=n
   omega
theorem zZF:∀{a b x y:JV},46 ∉ a->46 ∉ b->a++46::x=b++46::y->a=b/\x=y
 |[],[],x,y,_,_,h=>⟨rfl,(List.cons.inj h).2⟩
 |[],c::b,x,y,_,f,h=>absurd ((List.cons.inj h).1▸.head _) f
 |c::a,[],x,y,e,_,h=>absurd ((List.cons.inj h).1▸.head _) e
 |c::a,d::b,x,y,e,f,h=>by
  obtain⟨h1,g⟩:=List.cons.inj h;obtain⟨k,j⟩:=zZF (λq=>e (.tail _ q)) (λq=>f (.tail _ q)) g
  exact⟨by rw[h1,k],j⟩
theorem zb5{s:JV}(h:z9 16 s=true):46 ∉ s:=λa=>by
 unfold z9 at h;simp only[qr]at h;have:=QD.1 h.2.2 _ a
 revert this
 decide
theorem zYb{j:JV}{i:Int}:nmT j i=[]↔tk j i=false:=by
 unfold nmT;cases tk j i with
 |true=>simp
 |false=>simp
theorem zfb{j b:JV}{i a:Int}(h:tk j i=true)(h':tk b a=true)(e:nmT j i=nmT b a):j=b/\i=a:=by
 unfold nmT at e;rw[if_pos h,if_pos h',Qo,Qo]at e;unfold tk at h h';simp only[qr,decide_eq_true_eq]at h h';obtain⟨d,f⟩:=zZF (zb5 h.1) (zb5 h'.1) e;have this:val (dec i.toNat)=val (dec a.toNat):=congrArg val f;rw[zZE,zZE]at this;exact⟨d,by omega⟩
structure Ut where
 j:JV
 i:Int
 bd:Int
 m:Am
 t:JV
 g:Bool
def Ut.av(u:Ut):AV:=uAV u.j u.i u.bd u.m.a u.m.b u.m.c u.m.d u.t u.g
def Ut.z:Ut:=⟨[],0,0,.z,[],false⟩
structure Uok(us:List Ut):Prop where
 j:∀u∈us,u.j.length<=2000000
 wT:us.length<=30
abbrev uvs(us:List Ut):JE:=us.map Ut.av
theorem zQe(a:List Ut)(u:Ut):uvs (a++[u])=uvs a++[u.av]:=Qq
section
variable{β:Type}{P:β->Prop}
theorem zEG{wk:Bool}{us:List Ut}{i:Nat}(e:i<us.length){f:JV->Int->Int->Int->Int->Int->Int->JV->Bool->Option β}(k:Wp (f us[i].j us[i].i us[i].bd us[i].m.a us[i].m.b us[i].m.c us[i].m.d us[i].t us[i].g) P):Wp (dK wk yj (ixN (uvs us) (ofNat i)) f) P:=zVs (zIF e) k
theorem zR4{wk:Bool}{r:Am×Int}{o:JF}(h:o=some (amE r)){f:Int->Int->Int->Int->Int->Option β}(k:Wp (f r.1.a r.1.b r.1.c r.1.d r.2) P):Wp (dK wk yu o f) P:=zNV h k
def amB(r:Am×Bool):AV:=.qc [r.1.av,.bool r.2]
theorem zVO{wk:Bool}{r:Am×Bool}{o:JF}(h:o=some (amB r)){f:Int->Int->Int->Int->Bool->Option β}(k:Wp (f r.1.a r.1.b r.1.c r.1.d r.2) P):Wp (dK wk yv o f) P:=zXR h k
end
theorem zRK{n k:Nat}(h:n<=31)(hk:k<=200):n*k<=zg/\n<=zg:=by
 have:n*k<=31*200:=Nat.mul_le_mul h hk;unfold zg;omega
def eqS(a b:JV):Bool:=decide (a=b)
theorem zAY(a b:JV):zo a b=eqS a b:=zY a b
def zII(u:Ut):Bool:=tk u.j u.i&&(!(u.g&&!eqS u.t [])&&decide ((0<=u.bd/\u.bd<=3)/\u.m.ok))
theorem zYW(u:Ut)(k:u.j.length<=2000000):zME u.j u.i u.bd u.m.a u.m.b u.m.c u.m.d u.t u.g=some (.bool (zII u)):=by
 refine zf ?_
 rw[zTF];refine zSp (zQd u.j k u.i) ?_
 cases htk:tk u.j u.i with
 |false=>exact Wb (by unfold zII;rw[htk];rfl)
 |true=>
  rw[if_pos rfl];have tl:Wp (br (decide (u.bd>=0)) (br (decide (u.bd<=3)) (dK true [K.i .i64] (zCe u.m.a u.m.b u.m.c u.m.d) λn1=>some (AV.bool (n1==0))) (some (AV.bool false))) (some (AV.bool false))) λv=>v=.bool (decide ((0<=u.bd/\u.bd<=3)/\u.m.ok)):=by
   refine Wc (λh1=>Wc (λh=>qk_i (zIH ..) (Wb ?_)) λh=>Wb ?_) λh1=>Wb ?_
   .by_cases f:u.m.ok
    .rw[if_pos f,QM ⟨⟨h1,h⟩,f⟩];rfl
    .rw[if_neg f,QJ λq=>f q.2];rfl
   .rw[QJ λq=>h q.1.2]
   .rw[QJ λq=>h1 q.1.1]
  have e:zII u=(!(u.g&&!eqS u.t [])&&decide ((0<=u.bd/\u.bd<=3)/\u.m.ok)):=by unfold zII;rw[htk];rfl
  rw[e,zAY];cases hg:u.g with
  |false=>exact tl
  |true=>
   cases ht:eqS u.t []with
   |false=>exact Wb rfl
   |true=>exact tl
def inL(us:List Ut)(p:JV):List Ut:=us.filter λu=>eqS u.t p
theorem zf9(us:List Ut)(h:Uok us)(p:JV):zTA (uvs us) p=some (.qg 9 (uvs (inL us p))):=by
 have j:=h.wT;have loop:∀(n i:Nat)(a:List Ut),i<=us.length->us.length-i<n->a.length<=i->zAM n p (uvs us) (ofNat us.length) (ofNat i) (uvs a)=some (.qg 9 (uvs (a++inL (us.drop i) p))):=by
  intro n
  induction n with
  |zero=>intro i _ _ h;omega
  |succ n g=>
   intro i a q r v;refine zf ?_
   rw[zI4];refine Wd (λb=>zEG b ?_) λd=>Wb ?_
   .have f:us.drop i=us[i]::us.drop (i+1):=QO b;rw[zd (by omega)]
    refine qk_b (zWD ..) ?_
    rw[zAY];refine Wa (λe=>We (zRK (k:=88) (show(uvs a).length+1<=31 by rw[QG];omega) (by omega)) ?_) λe=>?_
    .have:=g (i+1) (a++[us[i]]) b (by omega) (by rw[QC,QL,QZ];omega)
     rw[f,show inL (us[i]::us.drop (i+1)) p=us[i]::inL (us.drop (i+1)) p from List.filter_cons_of_pos (p:=λu:Ut=>eqS u.t p) e]
     rw[Qo,zQe]at this;exact⟨_,this,rfl⟩
    .have:=g (i+1) a b (by omega) (by omega)
     rw[f,show inL (us[i]::us.drop (i+1)) p=inL (us.drop (i+1)) p from List.filter_cons_of_neg (p:=λu:Ut=>eqS u.t p) (by rw[e];decide)]
     exact⟨_,this,rfl⟩
   .rw[QW d];show _=AV.qg 9 (uvs (a++[]))
    rw[List.append_nil]
 refine zf ?_
 rw[zY0,zKc,QG];have:=loop ze 0 [] (QI _) (zk (by omega)) (QA _)
 rw[List.drop_zero]at this;exact zUG this (Wb rfl)
def gof(bd:Int)(p:JV)(u:Ut):Bool:=!u.g&&(eqS u.t p&&(decide (u.bd<bd)&&decide (u.bd<2)))
def goL(bd:Int)(us:List Ut)(p:JV):List Ut:=us.filter (gof bd p)
theorem zb6(us:List Ut)(h:Uok us)(p:JV)(w:JV)(bd b0 c0 d0 r:Int)(v:JE)(t0:JV)(nm:JV)(qw:JE)(c1 c2 c3 c4:Int)(up:Bool):zO1 w bd b0 c0 d0 r v t0 nm qw c1 c2 c3 c4 up (uvs us) p=some (.qg 9 (uvs (goL bd us p))):=by
 have B:=h.wT;have loop:∀(n i:Nat)(e:List Ut),i<=us.length->us.length-i<n->e.length<=i->zAp n p w bd b0 c0 d0 r v t0 (uvs us) (ofNat us.length) (ofNat i) (uvs e)=some (.qg 9 (uvs (e++goL bd (us.drop i) p))):=by
  intro n
  induction n with
  |zero=>intro i _ _ h;omega
  |succ n z=>
   intro i e C D E;refine zf ?_
   rw[zH7];refine Wd (λf=>zEG f ?_) λq=>Wb ?_
   .have y:us.drop i=us[i]::us.drop (i+1):=QO f;rw[zd (by omega)]
    have A:zMF us[i].j us[i].i us[i].bd us[i].m.a us[i].m.b us[i].m.c us[i].m.d us[i].t us[i].g p w bd b0 c0 d0 r v t0=some (.bool (gof bd p us[i])):=by
     rw[zTG,zAY];unfold gof;cases us[i].g<;>cases eqS us[i].t p<;>cases decide (us[i].bd<bd)<;>rfl
    refine qk_b A ?_
    refine Wa (λu=>We (zRK (k:=88) (show(uvs e).length+1<=31 by rw[QG];omega) (by omega)) ?_) λu=>?_
    .have:=z (i+1) (e++[us[i]]) f (by omega) (by rw[QC,QL,QZ];omega)
     rw[y,show goL bd (us[i]::us.drop (i+1)) p=us[i]::goL bd (us.drop (i+1)) p from List.filter_cons_of_pos u]
     rw[Qo,zQe]at this;exact⟨_,this,rfl⟩
    .have:=z (i+1) e f (by omega) (by omega)
     rw[y,show goL bd (us[i]::us.drop (i+1)) p=goL bd (us.drop (i+1)) p from List.filter_cons_of_neg (by rw[u];decide)]
     exact⟨_,this,rfl⟩
   .rw[QW q];show _=AV.qg 9 (uvs (e++[]))
    rw[List.append_nil]
 refine zf ?_
 rw[zVE,zI5,QG];have:=loop ze 0 [] (QI _) (zk (by omega)) (QA _)
 rw[List.drop_zero]at this;exact zUG this (Wb rfl)
def enf(s:JV)(u:Ut):Bool:=u.g&&(eqS u.t []&&eqS u.j s)
theorem zb7(us:List Ut)(h:Uok us)(v:JV)(bd b0 c0 d0 q:Int)(u:JE)(t0:JV):zDM (uvs us) v bd b0 c0 d0 q u t0=some (.qg 9 (uvs (us.filter (enf t0)))):=by
 have A:=h.wT;have loop:∀(n i:Nat)(e:List Ut),i<=us.length->us.length-i<n->e.length<=i->zAx n v bd b0 c0 d0 q u t0 (uvs us) (ofNat us.length) (ofNat i) (uvs e)=some (.qg 9 (uvs (e++(us.drop i).filter (enf t0)))):=by
  intro n
  induction n with
  |zero=>intro i _ _ h;omega
  |succ n y=>
   intro i e B C D;refine zf ?_
   rw[zIR];refine Wd (λf=>zEG f ?_) λp=>Wb ?_
   .have w:us.drop i=us[i]::us.drop (i+1):=QO f;rw[zd (by omega)]
    have z:zO0 us[i].j us[i].i us[i].bd us[i].m.a us[i].m.b us[i].m.c us[i].m.d us[i].t us[i].g v bd b0 c0 d0 q u t0=some (.bool (enf t0 us[i])):=by
     rw[zVD,zAY,zAY];unfold enf;cases us[i].g<;>cases eqS us[i].t []<;>rfl
    refine qk_b z ?_
    refine Wa (λr=>We (zRK (k:=88) (show(uvs e).length+1<=31 by rw[QG];omega) (by omega)) ?_) λr=>?_
    .have:=y (i+1) (e++[us[i]]) f (by omega) (by rw[QC,QL,QZ];omega)
     rw[w,List.filter_cons_of_pos r];rw[Qo,zQe]at this;exact⟨_,this,rfl⟩
    .have:=y (i+1) e f (by omega) (by omega)
     rw[w,List.filter_cons_of_neg (by rw[r];decide)]
     exact⟨_,this,rfl⟩
   .rw[QW p];show _=AV.qg 9 (uvs (e++[]))
    rw[List.append_nil]
 refine zf ?_
 rw[zJL,QG];have:=loop ze 0 [] (QI _) (zk (by omega)) (QA _)
 rw[List.drop_zero]at this;exact⟨_,this,rfl⟩
def zNk:Am->List Ut->Am×Bool
 |a,[]=>(a,true)
 |a,u::r=>if(zHR a u.m).2=0 then zNk (zHR a u.m).1 r else(.z,false)
def zDc(us:List Ut):Am:=tot (us.map (·.m))
theorem zTw:∀(l:List Ut)(a:Am),a.ok->(∀u∈l,u.m.ok)->zNk a l=if(zDc l).le a then(a.sub (zDc l),true)else(.z,false)
 |[],a,p,_=>by
  have h:(zDc []).le a:=by unfold zDc tot Am.z Am.le zFp;unfold Am.ok okA at p;simp only[List.map_nil];omega
  rw[if_pos h];show(a,true)=_
  congr 1;exact Am.eta (by show a.a=a.a-0;omega) (by show a.b=a.b-0;omega) (by show a.c=a.c-0;omega) (by show a.d=a.d-0;omega)
 |u::r,a,p,v=>by
  have C:=v u (.head _);have w:∀x∈r,x.m.ok:=λx k=>v x (.tail _ k)
  have A:(zDc r).nn:=zUP λx k=>by
   obtain⟨y,B,rfl⟩:=Qg.1 k;exact w y B
  have e:zDc (u::r)=u.m.add (zDc r):=rfl;show(if(zHR a u.m).2=0 then zNk (zHR a u.m).1 r else(.z,false))=_
  have g:zHR a u.m=if u.m.le a then(a.sub u.m,0)else(.z,14):=by unfold zHR;exact if_pos ⟨p,C⟩
  rw[g,e];by_cases f:u.m.le a
  .rw[if_pos f];show(if(0:Int)=0 then zNk (a.sub u.m) r else _)=_
   have hs:(a.sub u.m).ok:=by unfold Am.ok okA Am.le zFp at *;unfold Am.sub;simp only;omega
   rw[if_pos rfl,zTw r (a.sub u.m) hs w];have t:(zDc r).le (a.sub u.m)↔(u.m.add (zDc r)).le a:=by unfold Am.le zFp Am.sub Am.add;simp only;omega
   by_cases j:(zDc r).le (a.sub u.m)
   .rw[if_pos j,if_pos (t.1 j)];congr 1;exact Am.eta (by show a.a-_-_=a.a-(_+_);omega) (by show a.b-_-_=a.b-(_+_);omega) (by show a.c-_-_=a.c-(_+_);omega) (by show a.d-_-_=a.d-(_+_);omega)
   .rw[if_neg j,if_neg λq=>j (t.2 q)]
  .rw[if_neg f];show(if(14:Int)=0 then _ else(Am.z,false))=_
   rw[if_neg (by decide),if_neg]
   intro q;apply f;unfold Am.le zFp Am.add at *;unfold Am.nn at A;simp only at q;omega
theorem zdk(us:List Ut)(h:us.length<=30)(a:Am):zQh a.a a.b a.c a.d (uvs us)=some (amB (zNk a us)):=by
 have loop:∀(n i:Nat)(a:Am),i<=us.length->us.length-i<n->zJC n (uvs us) (ofNat us.length) (ofNat i) a.a a.b a.c a.d (ofNat 0) (ofNat 0) (ofNat 0) (ofNat 0)=some (amB (zNk a (us.drop i))):=by
  intro n
  induction n with
  |zero=>intro i _ _ h;omega
  |succ n k=>
   intro i a p q;refine zf ?_
   rw[zTH];refine Wd (λe=>zEG e (zR4 (zX9 a us[i].m) ?_)) λg=>Wb ?_
   .have j:us.drop i=us[i]::us.drop (i+1):=QO e;rw[j];refine Wa (λf=>Wb ?_) λf=>?_
    .have f:¬(zHR a us[i].m).2=0:=by simpa using f
     show _=amB (if(zHR a us[i].m).2=0 then _ else _)
     rw[if_neg f];rfl
    .have f:(zHR a us[i].m).2=0:=by simpa using f
     rw[zd (by omega)]
     refine⟨_,k (i+1) _ e (by omega),?_⟩
     show _=amB (if(zHR a us[i].m).2=0 then _ else _)
     rw[if_pos f]
   .rw[QW g];rfl
 rw[zWE,QG];have:=loop ze 0 a (QI _) (zk (by omega))
 rw[List.drop_zero]at this;exact this
def cP(p:JV)(u:Ut):Bool:=u.g&&(eqS u.t []&&(tk u.j u.i&&eqS (nmT u.j u.i) p))
theorem zYc(us:List Ut)(h:Uok us)(p:JV)(nm:JV)(qw:JE)(c1 c2 c3 c4:Int)(up:Bool):zLB nm qw c1 c2 c3 c4 up (uvs us) p=some (match us.find? (cP p)with|some u=>.qc [u.av,.bool true]|none=>.qc [Ut.z.av,.bool false]):=by
 have B:=h.wT;have loop:∀(n i:Nat)(s:JV)(a b c d e f:Int)(t:JV)(g:Bool),i<=us.length->us.length-i<n->zGw n p (uvs us) (ofNat us.length) (ofNat i) s a b c d e f t g=some (match(us.drop i).find? (cP p)with|some u=>.qc [u.av,.bool true]|none=>.qc [Ut.z.av,.bool false]):=by
  intro n
  induction n with
  |zero=>intro i _ _ _ _ _ _ _ _ _ _ h;omega
  |succ n A=>
   intro i s a b c d e f t g C D;refine zf ?_
   rw[zQk];refine Wd (λk=>zEG k (zSp (zQd _ (h.j _ (QR k)) _) ?_)) λr=>Wb ?_
   .have w:us.drop i=us[i]::us.drop (i+1):=QO k;have next:∀q:Bool,q=cP p us[i]->Wp (zDH n p (uvs us) (ofNat us.length) (ofNat i) q us[i].j us[i].i us[i].bd us[i].m.a us[i].m.b us[i].m.c us[i].m.d us[i].t us[i].g s a b c d e f t g) (λv=>v=match(us.drop i).find? (cP p)with|some u=>.qc [u.av,.bool true]|none=>.qc [Ut.z.av,.bool false]):=λq y=>by
     rw[zQj,zd (by omega),w,List.find?_cons,←y]
     cases q with
     |true=>exact Wb rfl
     |false=>exact⟨_,A (i+1) _ _ _ _ _ _ _ _ _ k (by omega),rfl⟩
    rw[zAY,zAY];have e:cP p us[i]=(us[i].g&&(eqS us[i].t []&&(tk us[i].j us[i].i&&eqS (nmT us[i].j us[i].i) p))):=rfl;cases hg:us[i].g with
    |false=>rw[hg]at e next;exact next _ (by rw[e];rfl)
    |true=>
     cases ht:eqS us[i].t []with
     |false=>rw[hg,ht]at e;rw[hg]at next;exact next _ (by rw[e];rfl)
     |true=>
      cases hk:tk us[i].j us[i].i with
      |false=>rw[hg,ht,hk]at e;rw[hg]at next;exact next _ (by rw[e];rfl)
      |true=>rw[hg,ht,hk]at e;rw[hg]at next;exact next _ (by rw[e];rfl)
   .rw[QW r];rfl
 rw[zSL,QG];have:=loop ze 0 [] 0 0 0 0 0 0 [] false (QI _) (zk (by omega))
 rw[List.drop_zero]at this;exact this
def zIJ(cap:Am)(us:List Ut)(p:JV):Am×Bool:=if p=[]then zNk cap (inL us p)else match us.find? (cP p)with
 |some u=>zNk u.m (inL us p)
 |none=>(.z,false)
theorem zfc(us:List Ut)(p:JV):(inL us p).length<=us.length:=List.length_filter_le _ _
theorem zTx(us:List Ut)(h:Uok us)(p:JV)(nm:JV)(qw:JE)(cap:Am)(up:Bool):zKH nm qw cap.a cap.b cap.c cap.d up (uvs us) p=some (amB (zIJ cap us p)):=by
 have g:∀a:Am,Wp (zJD p nm qw cap.a cap.b cap.c cap.d up (uvs us) a.a a.b a.c a.d (ofNat 0) (ofNat 0) (ofNat 0) (ofNat 0)) λv=>v=amB (zNk a (inL us p)):=λa=>by
  rw[zTI];exact zUG (zf9 us h p) (zVO (zdk _ (Qj (zfc us p) h.wT) a) (Wb rfl))
 refine zf ?_
 rw[zWF,zAY];unfold zIJ;by_cases e:p=[]
 .rw[if_pos e];have:eqS p []=true:=QM e;rw[this];exact g cap
 .rw[if_neg e];have:eqS p []=false:=QJ e;rw[this];have f:=zYc us h p nm qw cap.a cap.b cap.c cap.d up;cases hf:us.find? (cP p)with
  |some u=>
   rw[hf]at f;exact zMW f (g u.m)
  |none=>
   rw[hf]at f;exact zMW f (Wb rfl)
structure Pr where
 n:JV
 v:JV
def Pr.av(x:Pr):AV:=.agg [.str x.n,.str x.v]
abbrev pvs(l:List Pr):JE:=l.map Pr.av
structure Pok(l:List Pr):Prop where
 n:∀x∈l,x.n.length<=2000000
 v:∀x∈l,x.v.length<=2000000/\∀c∈x.v,c<256
 len:l.length<=2000000
theorem zRL:∀a b:JV,slt a b=decide (a<b)
 |_,[]=>by simp[slt]
 |[],_::_=>by simp[slt]
 |a::x,b::y=>by
  have e:=zRL x y;simp only[slt,List.cons_lt_cons_iff];by_cases h1:a<b
  .rw[show Nat.blt a b=true from by rw[Ql];exact h1];simp[h1]
  .rw[show Nat.blt a b=false from by rw[←Bool.not_eq_true,Ql];exact h1]
   by_cases d:a=b
   .subst d;rw[show Nat.beq a a=true from Nat.beq_refl a]
    simp only[e];simp
   .rw[show Nat.beq a b=false from by rw[←Bool.not_eq_true,Nat.beq_eq];exact d]
    simp[h1,d]
theorem zga(a b:JV):(slt a b||zo a b)=!slt b a:=by
 rw[zRL,zRL,zY];by_cases h1:a<b
 .have:=List.lt_asymm h1;simp[h1,this]
 .by_cases d:a=b
  .subst d;simp[h1]
  .have:b<a:=by
    rcases List.le_iff_lt_or_eq.1 (List.not_lt.1 h1)with h|h
    .exact h
    .exact absurd h.symm d
   simp[h1,d,this]
section
variable{β:Type}{P:β->Prop}
theorem p_at{wk:Bool}{l:List Pr}{i:Nat}(a:i<l.length){f:JV->JV->Option β}(k:Wp (f l[i].n l[i].v) P):Wp (dK wk yw (ixN (pvs l) (ofNat i)) f) P:=zeY (zIF a) k
end
theorem zYX(s:JV)(k:s.length<=2000000):zMC s=some (.bool (z9 24 s)):=by
 have loop:∀(n i:Nat),i<=s.length->s.length-i<n->zHe n (ofNat (bytes s).length) (ofNat i) (bytes s)=some (.bool ((s.drop i).all namB)):=by
  intro n
  induction n with
  |zero=>intro i _ h;omega
  |succ n t=>
   intro i u w;refine zf ?_
   rw[zQT];rw[QG];refine Wd (λh=>zHT h (zaN (zUu h) ?_)) λf=>Wb ?_
   .have next:∀b:Bool,b=!namB s[i]->Wp (zC9 n (ofNat s.length) (ofNat i) b (bytes s)) λv=>v=.bool ((s.drop i).all namB):=λb e=>by
     rw[zQS,QO h,Qb];refine Wa (λj=>Wb ?_) λj=>?_
     .have:namB s[i]=false:=by rw[j]at e;simpa using e.symm
      rw[this];rfl
     .have:namB s[i]=true:=by rw[j]at e;simpa using e.symm
      have:=t (i+1) h (by omega)
      rw[QG]at this;rw[zd (by omega),this,‹namB s[i]=true›]
      exact Wb rfl
    generalize s[i]=c at next
    repeat' first|refine Wc (λ_=>?_) (λ_=>?_)|refine qk_b (zKE _) ?_|refine Wa (λ_=>?_) (λ_=>?_)|refine next _ ?_
    all_goals simp only[qJ,Bool.not_eq_true',decide_eq_true_eq,decide_eq_false_iff_not,Bool.not_eq_false']at *
    all_goals unfold namB zAb zt
    all_goals rw[Bool.eq_iff_iff]
    all_goals simp
    all_goals omega
   .rw[QW f];rfl
 have d:∀b:Bool,(b=true->z9 24 s=false)->(b=false->z9 24 s=s.all namB)->zDX s b=some (.bool (z9 24 s)):=λb h1 g=>by
  refine zf ?_
  rw[zQV];refine Wa (λh=>Wb (by rw[h1 h])) λh=>?_
  rw[zQU];refine⟨_,loop ze 0 (QI _) (zk (by omega)),?_⟩
  rw[g h];rfl
 refine zf ?_
 rw[zTD];refine Wc (λh=>⟨_,d _ (λ_=>?_) (λh=>by cases h),rfl⟩) λq=>Wc (λh=>⟨_,d _ (λ_=>?_) (λh=>by cases h),rfl⟩) λh1=>?_
 .unfold z9;rw[zC5 (by rw[qJ]at h;omega)];simp
 .unfold z9;rw[QJ (by rw[qJ]at h;omega)];simp
 .rw[qJ]at q h1;have k:0<s.length:=by omega
  have r:ixN s 0=some s[0]:=zAS k;have p:decide (s.length<=24)=true:=QM (by omega)
  have a:isAt zAb s 0=zAb s[0]:=zBx k;rw[r];refine Wc (λh=>⟨_,d _ (λ_=>?_) (λh=>by cases h),rfl⟩) λg=>⟨_,d _ (λh=>?_) (λh=>?_),rfl⟩
  .unfold z9;rw[p,a];unfold zAb;rw[QJ (by rw[qJ]at h;omega)];simp
  .have h:=QP h;unfold z9;rw[p,a];unfold zAb;rw[QJ (by rw[qJ]at h;omega)];simp
  .have h:=Qk h;unfold z9;rw[p,a];unfold zAb;rw[QM (by rw[qJ]at h g;omega)];simp
theorem zYY(s:JV)(e:s.length<=2000000)(h8:∀c∈s,c<256):zMD s=some (.bool (zQa s)):=by
 have loop:∀(n i:Nat),i<=s.length->s.length-i<n->zHf n (ofNat (bytes s).length) (ofNat i) (bytes s)=some (.bool ((s.drop i).all wrdB)):=by
  intro n
  induction n with
  |zero=>intro i _ h;omega
  |succ n d=>
   intro i f g;refine zf ?_
   rw[zQW,QG];refine Wd (λh=>zHT h (zaN (zUu h) (qk_b (zRG _ (h8 _ (QR h))) ?_))) λa=>Wb ?_
   .rw[QO h,Qb];cases hw:wrdB s[i]with
    |false=>exact Wb rfl
    |true=>
     have:=d (i+1) h (by omega)
     rw[QG]at this;rw[zd (by omega)]
     exact⟨_,this,rfl⟩
   .rw[QW a];rfl
 refine zf ?_
 rw[zTE];unfold zQa;refine Wc (λh=>Wb ?_) λb=>Wc (λh=>Wb ?_) λh1=>?_
 .rw[QJ (by rw[qJ]at h;omega),Bool.and_false]
 .rw[QJ (by rw[qJ]at h;omega),Bool.and_false]
 .rw[QM (by rw[qJ]at b h1;omega),QV,zQX]
  exact⟨_,loop ze 0 (QI _) (zk (by omega)),rfl⟩
def gdP(l:List Pr)(j:Nat)(b:j<l.length):Prop:=z9 24 l[j].n=true/\zQa l[j].v=true/\∀a:0<j,slt l[j-1].n l[j].n=true
def zF3(l:List Pr):Prop:=l.length<=16/\∀j a,gdP l j a
def AtR(l:List Pr)(v:AV):Prop:=∃c:Int,v=.int .i64 c/\(c=0/\zF3 l\/c=2/\¬zF3 l)
theorem zUQ(l:List Pr)(h:Pok l):Wp (zKG (pvs l)) (AtR l):=by
 have bad:¬zF3 l->Wp (some (AV.int .i64 2)) (AtR l):=λh=>Wb ⟨2,rfl,.inr ⟨rfl,h⟩⟩
 have C:=h.len;have loop:l.length<=16->∀(n i:Nat),i<=l.length->l.length-i<n->(∀j f,j<i->gdP l j f)->Wp (zHW n (pvs l) (pvs l) (ofNat l.length) (ofNat i)) (AtR l):=by
  intro g n
  induction n with
  |zero=>intro i _ h;omega
  |succ n B=>
   intro i D E r;rw[zRT];refine Wd (λa=>p_at a ?_) λw=>Wb ⟨0,rfl,.inl ⟨rfl,g,λj f=>r j f (by omega)⟩⟩
   have next:∀b:Bool,(b=true->¬gdP l i a)->(b=false->gdP l i a)->Wp (zEq n (pvs l) (pvs l) (ofNat l.length) (ofNat i) b) (AtR l):=λb z k=>by
    rw[zRS];refine Wa (λe=>bad λq=>z e (q.2 i a)) λe=>?_
    rw[zd (by omega)]
    refine B (i+1) a (by omega) λj f A=>?_
    by_cases p:j<i
    .exact r j f p
    .have:j=i:=by omega
     subst this;exact k e
   refine qk_b (zYX _ (h.n _ (QR a))) (Wa (λe=>next _ (λ_ q=>by rw[q.1]at e;cases e) λq=>by cases q) λu=>qk_b (zYY _ (h.v _ (QR a)).1 (h.v _ (QR a)).2) (Wa (λe=>next _ (λ_ q=>by rw[q.2.1]at e;cases e) λq=>by cases q) λt=>Wc (λd=>?_) λd=>?_))
   .rw[qJ]at d;rw[zA8 (by omega) (by omega)]
    refine p_at (i:=i-1) (by omega) ?_
    rw[zga];exact next _ (λe q=>by rw[q.2.2 (by omega)]at e;cases e) λe=>⟨by simpa using u,by simpa using t,λy=>by simpa using e⟩
   .rw[qJ]at d;exact next _ (λe=>by cases e) λ_=>⟨by simpa using u,by simpa using t,λy=>by omega⟩
 rw[zU5,QG];refine Wc (λd=>bad λq=>?_) λd=>loop ?_ _ 0 (QI _) (zk (by omega)) λj f h=>by omega
 .have:=q.1;rw[qJ]at d;omega
 .rw[qJ]at d;omega
theorem zZG(l:List Pr)(h:Pok l):Wp (zDu (pvs l)) (AtR l):=by
 have bad:¬zF3 l->Wp (some (AV.int .i64 2)) (AtR l):=λh=>Wb ⟨2,rfl,.inr ⟨rfl,h⟩⟩
 have C:=h.len;have loop:l.length<=16->∀(n i:Nat),i<=l.length->l.length-i<n->(∀j f,j<i->gdP l j f)->Wp (zCF n (pvs l) (ofNat i)) (AtR l):=by
  intro g n
  induction n with
  |zero=>intro i _ h;omega
  |succ n B=>
   intro i D E r;rw[zKS,QG];refine Wd (λa=>p_at a ?_) λw=>Wb ⟨0,rfl,.inl ⟨rfl,g,λj f=>r j f (by omega)⟩⟩
   have next:∀b:Bool,(b=true->¬gdP l i a)->(b=false->gdP l i a)->Wp (zAH n (pvs l) (ofNat i) b) (AtR l):=λb z k=>by
    rw[zKR];refine Wa (λe=>bad λq=>z e (q.2 i a)) λe=>?_
    rw[zKQ,zd (by omega)]
    refine B (i+1) a (by omega) λj f A=>?_
    by_cases p:j<i
    .exact r j f p
    .have:j=i:=by omega
     subst this;exact k e
   refine qk_b (zJJ _ 24 (h.n _ (QR a))) (Wa (λe=>next _ (λ_ q=>by rw[q.1]at e;cases e) λq=>by cases q) λu=>p_at a (qk_b (zTv _ (h.v _ (QR a)).1) (Wa (λe=>next _ (λ_ q=>by rw[q.2.1]at e;cases e) λq=>by cases q) λt=>Wc (λd=>?_) λd=>?_)))
   .rw[qJ]at d;rw[zA8 (by omega) (by omega)]
    refine p_at (i:=i-1) (by omega) (p_at a ?_)
    exact next _ (λe q=>by rw[q.2.2 (by omega)]at e;cases e) λe=>⟨by simpa using u,by simpa using t,λy=>by simpa using e⟩
   .rw[qJ]at d;exact next _ (λe=>by cases e) λ_=>⟨by simpa using u,by simpa using t,λy=>by omega⟩
 rw[zMq,QG];refine Wc (λd=>bad λq=>?_) λd=>loop ?_ _ 0 (QI _) (zk (by omega)) λj f h=>by omega
 .have:=q.1;rw[qJ]at d;omega
 .rw[qJ]at d;omega
theorem zZH{l:List Pr}(h:zF3 l):∀(k j:Nat)(a:j<l.length)(hk:j+k+1<l.length),l[j].n<l[j+k+1].n:=by
 intro k
 induction k with
 |zero=>
  intro j a hk;have:=(h.2 (j+1) (by omega)).2.2 (by omega)
  rw[zRL,decide_eq_true_eq]at this
  simpa using this
 |succ k b=>
  intro j a hk;have h1:=b j a (by omega)
  have:=(h.2 (j+(k+1)+1) hk).2.2 (by omega)
  rw[zRL,decide_eq_true_eq]at this;have this:l[j+k+1].n<l[j+(k+1)+1].n:=by simpa[Nat.add_assoc]using this
  exact List.lt_trans h1 this
theorem zdl{l:List Pr}(h:zF3 l){i j:Nat}(d:i<l.length)(b:j<l.length)(e:l[i].n=l[j].n):i=j:=by
 rcases Nat.lt_trichotomy i j with q|q|q
 .have:=zZH h (j-i-1) i d (by omega)
  have a:i+(j-i-1)+1=j:=by omega
  simp only[a]at this;rw[e]at this;exact absurd this (List.lt_irrefl _)
 .exact q
 .have:=zZH h (i-j-1) j b (by omega)
  have a:j+(i-j-1)+1=i:=by omega
  simp only[a]at this;rw[e]at this;exact absurd this (List.lt_irrefl _)
def zFo(v:JV):Bool:=v.all zt&&decide (1<=v.length/\v.length<=12)
theorem zQM(s:JV)(f:s.length<=2000000):zHX s=some (.bool (zFo s)):=by
 have loop:∀(n i:Nat),i<=s.length->s.length-i<n->zF8 n (ofNat (bytes s).length) (ofNat i) (bytes s)=some (.bool ((s.drop i).all zt)):=by
  intro n
  induction n with
  |zero=>intro i _ h;omega
  |succ n b=>
   intro i g j;refine zf ?_
   rw[zPG,QG];refine Wd (λh=>zHT h (zaN (zUu h) (qk_b (zKE _) ?_))) λa=>Wb ?_
   .rw[QO h,Qb];have e:decide (48<=ofNat s[i]/\ofNat s[i]<=57)=zt s[i]:=by
     unfold zt;exact decide_eq_decide.2 (by rw[qJ];omega)
    rw[e];cases hw:zt s[i]with
    |false=>exact Wb rfl
    |true=>
     have:=b (i+1) h (by omega)
     rw[QG]at this;rw[zd (by omega)]
     exact⟨_,this,rfl⟩
   .rw[QW a];rfl
 refine zf ?_
 rw[zRX];unfold zFo;refine Wc (λh=>Wb ?_) λd=>Wc (λh=>Wb ?_) λh1=>?_
 .rw[QJ (by rw[qJ]at h;omega),Bool.and_false]
 .rw[QJ (by rw[qJ]at h;omega),Bool.and_false]
 .rw[QM (by rw[qJ]at d h1;omega),QV,zPH]
  exact⟨_,loop ze 0 (QI _) (zk (by omega)),rfl⟩
theorem zYd(s:JV)(q:s.length<=2000000):∃y:Int,zBZ s=some (.qc [.int .i64 y,.bool (zFo s)])/\(zFo s=true->y=ofNat (zFO s)):=by
 by_cases g:zFo s=true
 .have h:=g;unfold zFo at h;simp only[qr,decide_eq_true_eq]at h;refine⟨_,?_,λ_=>rfl⟩
  rw[zUH s h.2.2 (QD.1 h.1),g,QM (by omega)]
 have loop:∀(m i:Nat)(x:Int),i<=s.length->s.length-i<m->Wp (zBf m s x (ofNat i)) λv=>∃y,v=.qc [.int .i64 y,.bool ((s.drop i).all zt&&decide (1<=s.length/\s.length<=12))]:=by
  intro m
  induction m with
  |zero=>intro i x _ h;omega
  |succ m k=>
   intro i x r t;rw[zFD];refine Wd (λa=>?_) λf=>?_
   .rw[QO a,Qb];have next:zt s[i]=true->∀y,Wp (zCl m s y (ofNat i)) λv=>∃y,v=.qc [.int .i64 y,.bool ((zt s[i]&&(s.drop (i+1)).all zt)&&decide (1<=s.length/\s.length<=12))]:=λb y=>by
     rw[zFB,zd (by omega),b,Bool.true_and]
     exact k (i+1) y a (by omega)
    refine Wp.bd (R:=λc=>c=s[i]) ⟨_,zAS a,rfl⟩ λc h=>Wc (λh1=>Wb ⟨0,?_⟩) λh1=>Wp.bd (R:=λc=>c=s[i]) ⟨_,zAS a,rfl⟩ λc2 p=>Wc (λd=>Wb ⟨0,?_⟩) λd=>?_
    .have:zt s[i]=false:=QJ (by rw[qJ]at h1;omega)
     rw[this];rfl
    .have:zt s[i]=false:=QJ (by rw[qJ]at d;omega)
     rw[this];rfl
    .have b:zt s[i]=true:=QM (by rw[qJ]at h1 d;omega)
     rw[zFC];exact Wc (λ_=>Wp.bd (R:=λc=>c=s[i]) ⟨_,zAS a,rfl⟩ λc3 d=>next b _) λ_=>next b _
   .rw[QW f];refine Wc (λh=>Wb ⟨x,?_⟩) λh=>Wb ⟨x,?_⟩
    .rw[qJ]at h;have e:decide (ofNat s.length<=12)=(([]:JV).all zt&&decide (1<=s.length/\s.length<=12)):=by
      rw[List.all_nil,Bool.true_and];exact decide_eq_decide.2 (by rw[qJ];omega)
     rw[e]
    .rw[qJ]at h;rw[QJ (show ¬(1<=s.length/\s.length<=12) by omega),Bool.and_false]
 obtain⟨v,j,y,rfl⟩:=loop ze 0 (ofNat 0) (QI _) (zk (by omega))
 rw[zGO];exact⟨y,j,λh=>absurd h g⟩
def fnd(l:List Pr)(a:JV):Option JV:=(l.find? λx=>eqS x.n a).map Pr.v
theorem zYe{l:List Pr}{a:JV}(h:∀x∈l,x.n≠a):fnd l a=none:=by
 unfold fnd;rw[List.find?_eq_none.2 λx b=>by have:=h x b;simp[eqS,this]]
 rfl
theorem zYf{l:List Pr}(h:zF3 l){j:Nat}(b:j<l.length){a:JV}(e:l[j].n=a):fnd l a=some l[j].v:=by
 unfold fnd;cases hf:l.find? (λx=>eqS x.n a)with
 |none=>exact absurd (List.find?_eq_none.1 hf _ (QR b)) (by simp[eqS,e])
 |some x=>
  have h1:=List.find?_some hf;obtain⟨i,d,rfl⟩:=List.getElem_of_mem (List.mem_of_find?_eq_some hf);have h1:l[i].n=a:=QP h1;have:=zdl h d b (h1.trans e.symm);subst this;rfl
theorem zgb(l:List Pr)(C:l.length<=2000000)(k:Int)(a b:JV)(n p q:Int):∃z,zV (pvs l) k a b n p q=some (.int .i64 z)/\((z=Int.negSucc 0/\∀x∈l,x.n≠a)\/∃j,∃f:j<l.length,z=ofNat j/\l[j].n=a):=by
 have loop:∀(m i:Nat),i<=l.length->l.length-i<m->(∀j (f:j<l.length),j<i->l[j].n≠a)->Wp (zQ m (pvs l) k a b n p q (ofNat l.length) (ofNat i)) λv=>∃z,v=.int .i64 z/\((z=Int.negSucc 0/\∀x∈l,x.n≠a)\/∃j,∃f:j<l.length,z=ofNat j/\l[j].n=a):=by
  intro m
  induction m with
  |zero=>intro i _ h;omega
  |succ m B=>
   intro i D E g;rw[zD6];refine Wd (λd=>p_at d (qk_b (zSO ..) ?_)) λr=>Wb ⟨_,rfl,.inl ⟨rfl,λx y=>?_⟩⟩
   .rw[zY];refine Wc (λe=>Wb ⟨_,rfl,.inr ⟨i,d,rfl,e⟩⟩) λe=>?_
    rw[zd (by omega)]
    refine B (i+1) d (by omega) λj f u=>?_
    by_cases t:j<i
    .exact g j f t
    .have:j=i:=by omega
     subst this;exact e
   .obtain⟨j,f,rfl⟩:=List.getElem_of_mem y;exact g j f (by omega)
 rw[zEF,QG];obtain⟨v,A,z,rfl,w⟩:=loop ze 0 (QI _) (zk (by omega)) λj f h=>by omega
 exact⟨z,A,w⟩
def zUR(l:List Pr)(k:Int)(a b:JV)(n:Int):Bool:=match fnd l a with
 |some v=>if k=1 then true else if k=2 then eqS v b else if k=3 then !eqS v b else if k=4 then zFo v&&decide (n<=ofNat (zFO v))else if k=5 then zFo v&&decide (ofNat (zFO v)<=n)else true
 |none=>decide (k=1\/k=3)
def zAh(l:List Pr):RT->Bool
 |.leaf k a b n=>zUR l k a b n
 |.not t=>!zAh l t
 |.two k t u=>if k=8 then zAh l t&&zAh l u else zAh l t||zAh l u
theorem zYg{v:JV}(h:zFo v=true):zEC v=some (.int .i64 (ofNat (zFO v))):=by
 unfold zFo at h;simp only[qr,decide_eq_true_eq]at h;obtain⟨y,a,e⟩:=zX0 v h.2.2 (QD.1 h.1);rw[a,e (by omega)]
theorem zfd{es:JE}{l:List Pr}(I:Pok l)(O:zF3 l):∀(t:RT)(o d:Nat),t.size<=d->t.size<=1000->Seg es t o->t.kd->zCQ d es (ofNat (o+t.size-1)) (pvs l)=some (.bool (zAh l t)):=by
 have A:=I.len;have r:∀(d j:Nat)(k:Int)(a b:JV)(n p q:Int)(Q:AV->Prop),es[j]?=some (nd6 k a b n p q)->(∀z,((z=Int.negSucc 0/\∀x∈l,x.n≠a)\/∃j,∃y:j<l.length,z=ofNat j/\l[j].n=a)->zV (pvs l) k a b n p q=some (.int .i64 z)->Wp (zCQ (d+1) es (ofNat j) (pvs l)) Q)->Wp (zCQ (d+1) es (ofNat j) (pvs l)) Q:=λd j k a b n p q Q S M=>by
  obtain⟨z,C,hc⟩:=zgb l A k a b n p q;exact M z hc C
 intro t
 induction t with
 |leaf k a b n=>
  intro o d f C hs hk;have g:(RT.leaf k a b n).size=1:=rfl;obtain⟨d,rfl⟩:∃e,d=e+1:=⟨d-1,by omega⟩
  refine zf ?_
  rw[g,show o+1-1=o by omega]
  refine r d o k a b n _ _ _ hs.leaf λz hc w=>?_
  rw[zKM];refine zBj hs.leaf (qk_i w ?_)
  rw[show zAh l (.leaf k a b n)=zUR l k a b n from rfl]
  unfold zUR;rcases hc with⟨rfl,D⟩|⟨j,y,rfl,e⟩
  .rw[zYe D];obtain rfl|rfl|rfl|rfl|rfl|rfl:k=1\/k=2\/k=3\/k=4\/k=5\/k=6:=by have:=hk.1;have:=hk.2;omega
   .exact Wt rfl (Wb rfl)
   .exact Wf rfl<|Wt rfl (Wc (λh=>by exact absurd h (by decide)) λ_=>Wb rfl)
   .exact Wf rfl<|Wf rfl<|Wt rfl (Wc (λ_=>Wb rfl) λh=>by exact absurd (show Int.negSucc 0<0 by decide) h)
   .exact Wf rfl<|Wf rfl<|Wf rfl<|Wt rfl (Wc (λh=>by exact absurd h (by decide)) λ_=>Wb rfl)
   .exact Wf rfl<|Wf rfl<|Wf rfl<|Wf rfl<|Wt rfl (Wc (λh=>by exact absurd h (by decide)) λ_=>Wb rfl)
   .exact Wf rfl<|Wf rfl<|Wf rfl<|Wf rfl<|Wf rfl<|Wf rfl<|Wf rfl<|Wf rfl<|Wb rfl
  .rw[zYf O y e];have L:=I.v _ (QR y);obtain rfl|rfl|rfl|rfl|rfl|rfl:k=1\/k=2\/k=3\/k=4\/k=5\/k=6:=by have:=hk.1;have:=hk.2;omega
   .exact Wt rfl (Wb rfl)
   .exact Wf rfl<|Wt rfl (Wc (λ_=>p_at y (Wb (by rw[zAY];rfl))) λh=>by exact absurd (QU _) h)
   .exact Wf rfl<|Wf rfl<|Wt rfl (Wc (λh=>by exact absurd h (Int.not_lt.2 (QU _))) λ_=>p_at y (Wb (by rw[zAY];rfl)))
   .exact Wf rfl<|Wf rfl<|Wf rfl<|Wt rfl (Wc (λ_=>p_at y (qk_b (zQM _ L.1) (Wa (λf=>p_at y (qk_i (zYg f) (Wb (by show _=AV.bool (zFo l[j].v&&_);rw[f];rfl)))) λf=>Wb (by show _=AV.bool (zFo l[j].v&&_);rw[f];rfl)))) λh=>by exact absurd (QU _) h)
   .exact Wf rfl<|Wf rfl<|Wf rfl<|Wf rfl<|Wt rfl (Wc (λ_=>p_at y (qk_b (zQM _ L.1) (Wa (λf=>p_at y (qk_i (zYg f) (Wb (by show _=AV.bool (zFo l[j].v&&_);rw[f];rfl)))) λf=>Wb (by show _=AV.bool (zFo l[j].v&&_);rw[f];rfl)))) λh=>by exact absurd (QU _) h)
   .exact Wf rfl<|Wf rfl<|Wf rfl<|Wf rfl<|Wf rfl<|Wf rfl<|Wf rfl<|Wf rfl<|Wb (by rw[QM (show ofNat j>=0 from QU _)];rfl)
 |not t R=>
  intro o d f C hs hk;have g:(RT.not t).size=t.size+1:=rfl;obtain⟨d,rfl⟩:∃e,d=e+1:=⟨d-1,by omega⟩
  obtain⟨F,B⟩:=hs.not;refine zf ?_
  rw[g,show o+(t.size+1)-1=o+t.size by omega]
  refine r d (o+t.size) _ _ _ _ _ _ _ B λz hc w=>?_
  rw[zKM];refine zBj B (qk_i w ?_)
  exact Wf rfl<|Wf rfl<|Wf rfl<|Wf rfl<|Wf rfl<|Wt rfl (qk_b (R o d (by omega) (by omega) F hk) (Wb rfl))
 |two k t u G E=>
  intro o d f C hs hk;have g:(RT.two k t u).size=t.size+u.size+1:=rfl;have:=t.size_pos;have:=u.size_pos;obtain⟨d,rfl⟩:∃e,d=e+1:=⟨d-1,by omega⟩
  obtain⟨F,B,J⟩:=hs.two;refine zf ?_
  rw[g,show o+(t.size+u.size+1)-1=o+t.size+u.size by omega]
  refine r d (o+t.size+u.size) _ _ _ _ _ _ _ J λz hc w=>?_
  rw[zKM];refine zBj J (qk_i w ?_)
  have K:=G o d (by omega) (by omega) F hk.2.1
  have H:=E (o+t.size) d (by omega) (by omega) B hk.2.2
  obtain rfl|rfl:=hk.1
  .exact Wf rfl<|Wf rfl<|Wf rfl<|Wf rfl<|Wf rfl<|Wf rfl<|Wt rfl (qk_b K (Wa (λh1=>qk_b H (Wb (by show _=AV.bool (zAh l t&&zAh l u);rw[h1];rfl))) λh1=>Wb (by show _=AV.bool (zAh l t&&zAh l u);rw[h1];rfl)))
  .exact Wf rfl<|Wf rfl<|Wf rfl<|Wf rfl<|Wf rfl<|Wf rfl<|Wf rfl<|Wt rfl (qk_b K (Wa (λh1=>Wb (by show _=AV.bool (zAh l t||zAh l u);rw[h1];rfl)) λh1=>qk_b H (Wb (by show _=AV.bool (zAh l t||zAh l u);rw[h1];rfl))))
theorem zWC{l:List Pr}(b:Pok l)(d:zF3 l){t:RT}(e:t.wf)(g:t.size<=64)(hc:zDs (t.fl 0)=some (.int .i64 0)):zKI (t.fl 0) (pvs l)=some (.qc [.bool (zAh l t),.int .i64 0]):=by
 have a:=t.size_pos;refine zf ?_
 rw[zU7];refine qk_i hc (Wf rfl<|?_)
 obtain⟨v,f,c,rfl,⟨rfl,_⟩|⟨rfl,h⟩⟩:=zUQ l b
 .refine qk_i f (Wf rfl<|?_)
  rw[RT.fl_length,zA8 a (by omega)]
  have:=zfd (es:=t.fl 0) b d t 0 ze (Qm (zk (by omega))) (by omega) (Seg.whole t) e.kd
  rw[QY]at this;exact qk_b this (Wb rfl)
 .exact absurd d h
theorem zaz{es:JE}{l:List Pr}(C:Pok l)(B:zF3 l){d:Nat}{k:Int}{a b:JV}{n p q:Int}{Q:AV->Prop}(tail:Wp (zW d (0+1) es (pvs l) (fnd l a).isSome ((fnd l a).getD []) (ofNat l.length) k a b n p q) Q):
  ∀(m i:Nat)(th:Bool)(v:JV),i<=l.length->l.length-i<m->((∃j,∃g:j<l.length,j<i/\l[j].n=a/\th=true/\v=l[j].v)\/((∀j (g:j<l.length),j<i->l[j].n≠a)/\th=false/\v=[]))->Wp (zW d m es (pvs l) th v (ofNat i) k a b n p q) Q:=by
 have u:=C.len;intro m
 induction m with
 |zero=>intro i _ _ _ h;omega
 |succ m y=>
  intro i th v F G w;by_cases f:i<l.length
  .rw[zAW,QG];refine Wd (λ_=>p_at f ?_) λz=>by omega
   rw[zY,zd (by omega)]
   refine Wc (λe=>p_at f (y (i+1) true _ f (by omega) (.inl ⟨i,f,QX _,e,rfl,rfl⟩))) λe=>y (i+1) th v f (by omega) ?_
   rcases w with⟨j,g,h1,r⟩|⟨h1,r⟩
   .exact .inl ⟨j,g,by omega,r⟩
   .refine .inr ⟨λj g A=>?_,r⟩
    by_cases D:j<i
    .exact h1 j g D
    .have:j=i:=by omega
     subst this;exact e
  .have:i=l.length:=by omega
   subst this;have t:th=(fnd l a).isSome/\v=(fnd l a).getD []:=by
    rcases w with⟨j,g,_,r,rfl,rfl⟩|⟨h1,rfl,rfl⟩
    .rw[zYf B g r];exact⟨rfl,rfl⟩
    .rw[zYe λx E=>by obtain⟨j,g,rfl⟩:=List.getElem_of_mem E;exact h1 j g g];exact⟨rfl,rfl⟩
   rw[t.1,t.2];rw[zAW]at tail⊢;rw[QG,QJ (Int.lt_irrefl _),zAP]at tail⊢;exact tail
theorem zb8{es:JE}{l:List Pr}(C:Pok l)(J:zF3 l):∀(t:RT)(o d:Nat),t.size<=d->t.size<=1000->Seg es t o->t.kd->zAj d es (ofNat (o+t.size-1)) (pvs l)=some (.bool (zAh l t)):=by
 have F:=C.len;have start:∀{d:Nat}{k:Int}{a b:JV}{n p q:Int}{Q:AV->Prop},Wp (zW d (0+1) es (pvs l) (fnd l a).isSome ((fnd l a).getD []) (ofNat l.length) k a b n p q) Q->Wp (zW d ze es (pvs l) false [] (ofNat 0) k a b n p q) Q:=λh=>zaz C J h ze 0 false [] (QI _) (zk (by omega)) (.inr ⟨λj M h=>by omega,rfl,rfl⟩)
 have r:∀a,((fnd l a).getD []).length<=2000000:=λa=>by
  unfold fnd;cases hf:l.find? (λx=>eqS x.n a)with
  |none=>exact QI _
  |some x=>exact(C.v x (List.mem_of_find?_eq_some hf)).1
 intro t
 induction t with
 |leaf k a b n=>
  intro o d f H hs hk;have g:(RT.leaf k a b n).size=1:=rfl;obtain⟨d,rfl⟩:∃e,d=e+1:=⟨d-1,by omega⟩
  refine zf ?_
  rw[zEi,g,show o+1-1=o by omega]
  refine zBj hs.leaf (start ?_)
  rw[zAW,QG,QJ (Int.lt_irrefl _),zAP];obtain⟨y,z,w⟩:=zYd _ (r a);refine zSq z ?_
  rw[show zAh l (.leaf k a b n)=zUR l k a b n from rfl]
  unfold zUR;cases hf:fnd l a with
  |none=>
   obtain rfl|rfl|rfl|rfl|rfl|rfl:k=1\/k=2\/k=3\/k=4\/k=5\/k=6:=by have:=hk.1;have:=hk.2;omega
   .exact Wt rfl (Wb rfl)
   .exact Wf rfl<|Wt rfl (Wb rfl)
   .exact Wf rfl<|Wf rfl<|Wt rfl (Wb rfl)
   .exact Wf rfl<|Wf rfl<|Wf rfl<|Wt rfl (Wb rfl)
   .exact Wf rfl<|Wf rfl<|Wf rfl<|Wf rfl<|Wt rfl (Wb rfl)
   .exact Wf rfl<|Wf rfl<|Wf rfl<|Wf rfl<|Wf rfl<|Wt rfl (Wb rfl)
  |some v=>
   rw[hf]at w;have w:zFo v=true->y=ofNat (zFO v):=w;obtain rfl|rfl|rfl|rfl|rfl|rfl:k=1\/k=2\/k=3\/k=4\/k=5\/k=6:=by have:=hk.1;have:=hk.2;omega
   .exact Wt rfl (Wb rfl)
   .exact Wf rfl<|Wt rfl (Wb (by rw[zAY];rfl))
   .exact Wf rfl<|Wf rfl<|Wt rfl (Wb (by rw[zAY];rfl))
   .exact Wf rfl<|Wf rfl<|Wf rfl<|Wt rfl (Wt rfl (Wa (λf=>Wb (by have f:zFo v=true:=f;show _=AV.bool (zFo v&&_);rw[f,w f];rfl)) λf=>Wb (by have f:zFo v=false:=f;show _=AV.bool (zFo v&&_);rw[f];rfl)))
   .exact Wf rfl<|Wf rfl<|Wf rfl<|Wf rfl<|Wt rfl (Wt rfl (Wa (λf=>Wb (by have f:zFo v=true:=f;show _=AV.bool (zFo v&&_);rw[f,w f];rfl)) λf=>Wb (by have f:zFo v=false:=f;show _=AV.bool (zFo v&&_);rw[f];rfl)))
   .exact Wf rfl<|Wf rfl<|Wf rfl<|Wf rfl<|Wf rfl<|Wt rfl (Wb rfl)
 |not t L=>
  intro o d f H hs hk;have g:(RT.not t).size=t.size+1:=rfl;obtain⟨d,rfl⟩:∃e,d=e+1:=⟨d-1,by omega⟩
  obtain⟨D,B⟩:=hs.not;refine zf ?_
  rw[zEi,g,show o+(t.size+1)-1=o+t.size by omega]
  refine zBj B (start ?_)
  rw[zAW,QG,QJ (Int.lt_irrefl _),zAP];obtain⟨y,z,w⟩:=zYd _ (r []);refine zSq z ?_
  exact Wf rfl<|Wf rfl<|Wf rfl<|Wf rfl<|Wf rfl<|Wf rfl<|Wt rfl (qk_b (L o d (by omega) (by omega) D hk) (Wb rfl))
 |two k t u E A=>
  intro o d f H hs hk;have g:(RT.two k t u).size=t.size+u.size+1:=rfl;have:=t.size_pos;have:=u.size_pos;obtain⟨d,rfl⟩:∃e,d=e+1:=⟨d-1,by omega⟩
  obtain⟨D,B,K⟩:=hs.two;refine zf ?_
  rw[zEi,g,show o+(t.size+u.size+1)-1=o+t.size+u.size by omega]
  refine zBj K (start ?_)
  rw[zAW,QG,QJ (Int.lt_irrefl _),zAP];obtain⟨y,z,w⟩:=zYd _ (r []);refine zSq z ?_
  have I:=E o d (by omega) (by omega) D hk.2.1
  have G:=A (o+t.size) d (by omega) (by omega) B hk.2.2
  obtain rfl|rfl:=hk.1
  .exact Wf rfl<|Wf rfl<|Wf rfl<|Wf rfl<|Wf rfl<|Wf rfl<|Wf rfl<|Wt rfl (qk_b I (Wa (λh1=>qk_b G (Wb (by show _=AV.bool (zAh l t&&zAh l u);rw[h1];rfl))) λh1=>Wb (by show _=AV.bool (zAh l t&&zAh l u);rw[h1];rfl)))
  .exact Wf rfl<|Wf rfl<|Wf rfl<|Wf rfl<|Wf rfl<|Wf rfl<|Wf rfl<|Wf rfl<|qk_b I (Wa (λh1=>Wb (by show _=AV.bool (zAh l t||zAh l u);rw[h1];rfl)) λh1=>qk_b G (Wb (by show _=AV.bool (zAh l t||zAh l u);rw[h1];rfl)))
theorem zaA{l:List Pr}(b:Pok l)(d:zF3 l){t:RT}(e:t.wf)(g:t.size<=64)(hc:zZ (t.fl 0)=some (.int .i64 0)):zDw (t.fl 0) (pvs l)=some (.qc [.bool (zAh l t),.int .i64 0]):=by
 have a:=t.size_pos;refine zf ?_
 rw[zMt];refine qk_i hc (Wf rfl<|?_)
 obtain⟨v,f,c,rfl,⟨rfl,_⟩|⟨rfl,h⟩⟩:=zZG l b
 .refine qk_i f (Wf rfl<|?_)
  rw[zKW,RT.fl_length,zA8 a (by omega)]
  have:=zb8 (es:=t.fl 0) b d t 0 ze (Qm (zk (by omega))) (by omega) (Seg.whole t) e.kd
  rw[QY]at this;exact qk_b this (Wb rfl)
 .exact absurd d h
structure Vw where
 nm:JV
 qw:List Pr
 cap:Am
 up:Bool
 us:List Ut
def Vw.av(v:Vw):AV:=.agg [.str v.nm,.qg 2 (pvs v.qw),.int .i64 v.cap.a,.int .i64 v.cap.b,.int .i64 v.cap.c,.int .i64 v.cap.d,.bool v.up,.qg 9 (uvs v.us)]
structure Vw.Ok(v:Vw):Prop where
 nm:∀c∈v.nm,c<256
 qw:Pok v.qw
 us:Uok v.us
def tsk(u:Ut):JV×Int:=(u.j,u.i)
structure Fine(v:Vw):Prop where
 n1:1<=v.nm.length
 n2:v.nm.length<=16
 qw:zF3 v.qw
 cap:v.cap.ok
 us:∀u∈v.us,zII u=true
 nd:(v.us.map tsk).Nodup
def VP(v:Vw):Prop:=Fine v/\∀u∈v.us,(zIJ v.cap v.us u.t).2=true
def CkR(p:Prop)(x:AV):Prop:=∃c:Int,x=.int .i64 c/\(c=0/\p\/c=2/\¬p)
theorem zFa{u:Ut}(h:zII u=true):tk u.j u.i=true/\(u.g=true->u.t=[])/\u.m.ok:=by
 unfold zII at h;simp only[qr,decide_eq_true_eq]at h;refine⟨h.1,λa=>?_,h.2.2.2⟩
 have:=h.2.1;rw[a]at this;unfold eqS at this
 simpa using this
def zPa(ts:List (JV×Int)):List (AV×AV):=ts.map λt=>(.agg [.str t.1,.int .i64 t.2],.bool true)
theorem zdT(s d:JV)(i a:Int):eqk true [Kd.s,Kd.i] (.agg [.str s,.int .i64 i]) (.agg [.str d,.int .i64 a])=some (decide ((s,i)=(d,a))):=by
 show(match some (zo s d)with|some true=>(match(some (i==a):Option Bool)with|some true=>some true|some false=>some false|none=>none)|some false=>some false|none=>none)=_
 rw[zY];by_cases h1:s=d
 .by_cases e:i=a
  .subst h1;subst e;simp
  .subst h1;rw[show(i==a)=false by simp[e]];simp[e]
 .simp[h1]
theorem zZI(t:JV×Int):∀ts:List (JV×Int),zCt true [Kd.s,Kd.i] (.agg [.str t.1,.int .i64 t.2]) (zPa ts)=if t∈ts then some (some (.bool true))else some none
 |[]=>rfl
 |x::ts=>by
  have h:=zZI t ts;show(match eqk true [Kd.s,Kd.i] (.agg [.str t.1,.int .i64 t.2]) (.agg [.str x.1,.int .i64 x.2])with
   |some true=>some (some (AV.bool true))
   |some false=>zCt true [Kd.s,Kd.i] (.agg [.str t.1,.int .i64 t.2]) (zPa ts)
   |none=>none)=_
  rw[zdT];by_cases e:t=x
  .subst e;simp
  .have a:¬(t.1,t.2)=(x.1,x.2):=e;simp only[a,decide_false,QH,e,false_or];exact h
theorem zb9(t:JV×Int):∀ts:List (JV×Int),t ∉ ts->zGn true [Kd.s,Kd.i] (.agg [.str t.1,.int .i64 t.2]) (.bool true) (zPa ts)=some (zPa (ts++[t]))
 |[],_=>rfl
 |x::ts,d=>by
  have a:t ∉ ts:=λh=>d (.tail _ h)
  have h:=zb9 t ts a;show(match eqk true [Kd.s,Kd.i] (.agg [.str t.1,.int .i64 t.2]) (.agg [.str x.1,.int .i64 x.2])with
   |some true=>some ((AV.agg [.str t.1,.int .i64 t.2],AV.bool true)::zPa ts)
   |some false=>match zGn true [Kd.s,Kd.i] (.agg [.str t.1,.int .i64 t.2]) (.bool true) (zPa ts)with
    |some g=>some ((AV.agg [.str x.1,.int .i64 x.2],AV.bool true)::g)
    |none=>none
   |none=>none)=_
  rw[zdT];have e:¬(t.1,t.2)=(x.1,x.2):=λh=>d (show t∈x::ts from(show t=x from h)▸.head _)
  simp only[e,decide_false,h];rfl
theorem zBa{α:Type}{l:List α}{i:Nat}(h:i<l.length):l.take (i+1)=l.take i++[l[i]]:=by rw[List.take_add_one,QF h];rfl
theorem zNl{α:Type}{l:List α}{x:α}(h:l.Nodup)(hx:x ∉ l):(l++[x]).Nodup:=
 List.nodup_append.2 ⟨h,by simp,λa f b d e=>hx (by rw[Qa]at d;rw[←d,←e];exact f)⟩
theorem zMA(v:Vw)(h:v.Ok):Wp (zF7 v.nm (pvs v.qw) v.cap.a v.cap.b v.cap.c v.cap.d v.up (uvs v.us)) (CkR (VP v)):=by
 have W:=h.us.wT;have bad:¬VP v->Wp (some (AV.int .i64 2)) (CkR (VP v)):=λh=>Wb ⟨2,rfl,.inr ⟨rfl,h⟩⟩
 have z:Fine v->∀(n i:Nat),i<=v.us.length->v.us.length-i<n->(∀u∈v.us.take i,(zIJ v.cap v.us u.t).2=true)->Wp (zFr n (uvs v.us) (ofNat v.us.length) (ofNat i) v.nm (pvs v.qw) v.cap.a v.cap.b v.cap.c v.cap.d v.up (uvs v.us)) (CkR (VP v)):=by
  intro S n
  induction n with
  |zero=>intro i _ h;omega
  |succ n L=>
   intro i T U B;rw[zO5];refine Wd (λg=>zEG g (zVO (zTx v.us h.us v.us[i].t v.nm _ v.cap v.up) (Wa (λe=>bad λq=>?_) λe=>?_))) λy=>Wb ⟨0,rfl,.inl ⟨rfl,S,by rwa [List.take_of_length_le y]at B⟩⟩
   .rw[q.2 _ (QR g)]at e;cases e
   .rw[zd (by omega)]
    refine L (i+1) g (by omega) λu k=>?_
    rw[zBa g]at k;rcases QK.1 k with k|k
    .exact B u k
    .rw[Qa.1 k];simpa using e
 have loop:1<=v.nm.length->v.nm.length<=16->zF3 v.qw->v.cap.ok->∀(n i:Nat),i<=v.us.length->v.us.length-i<n->(∀u∈v.us.take i,zII u=true)->((v.us.take i).map tsk).Nodup->Wp (zFs n (uvs v.us) (ofNat v.us.length) (ofNat i) v.nm (pvs v.qw) v.cap.a v.cap.b v.cap.c v.cap.d v.up (uvs v.us) (zPa ((v.us.take i).map tsk))) (CkR (VP v)):=by
  intro q1 M G J n
  induction n with
  |zero=>intro i _ h;omega
  |succ n L=>
   intro i T U B A;rw[zO6];refine Wd (λg=>zEG g (qk_b (zYW _ (h.us.j _ (QR g))) (Wa (λe=>bad λq=>?_) λe=>?_))) λy=>?_
   .rw[q.1.us _ (QR g)]at e;cases e
   .have e:zII v.us[i]=true:=by simpa using e
    have E:=zZI (tsk v.us[i]) ((v.us.take i).map tsk);have F:(v.us.take (i+1)).map tsk=(v.us.take i).map tsk++[tsk v.us[i]]:=by rw[zBa g,Qq];rfl
    by_cases r:tsk v.us[i]∈(v.us.take i).map tsk
    .rw[if_pos r]at E;refine qk_b (show lkR false (AV.bool false) (zCt true [Kd.s,Kd.i] (AV.agg [AV.str (tsk v.us[i]).1,AV.int .i64 (tsk v.us[i]).2]) (zPa ((v.us.take i).map tsk)))=some (.bool true) by rw[E];rfl) (bad λq=>?_)
     have w:((v.us.take (i+1)).map tsk).Nodup:=q.1.nd.sublist ((List.take_sublist _ _).map _);rw[F]at w;exact(List.nodup_append.1 w).2.2 _ r _ (Qa.2 rfl) rfl
    .rw[if_neg r]at E;refine qk_b (show lkR false (AV.bool false) (zCt true [Kd.s,Kd.i] (AV.agg [AV.str (tsk v.us[i]).1,AV.int .i64 (tsk v.us[i]).2]) (zPa ((v.us.take i).map tsk)))=some (.bool false) by rw[E];rfl) ?_
     have I:=zb9 (tsk v.us[i]) _ r;have I:zGn true [Kd.s,Kd.i] (AV.agg [AV.str v.us[i].j,AV.int .i64 v.us[i].i]) (AV.bool true) (zPa ((v.us.take i).map tsk))=_:=I;rw[zAP,I,zXJ,zd (by omega),←F]
     refine L (i+1) g (by omega) (λu k=>?_) (by rw[F];exact zNl A r)
     rw[zBa g]at k;rcases QK.1 k with k|k
     .exact B u k
     .rw[Qa.1 k];exact e
   .rw[List.take_of_length_le y]at B A;rw[QG];exact z ⟨q1,M,G,J,B,A⟩ ze 0 (QI _) (zk (by omega)) λu k=>by cases k
 have C:∀b:Bool,(b=true->¬VP v)->(b=false->1<=v.nm.length/\v.nm.length<=16/\zF3 v.qw/\v.cap.ok)->Wp (zDk b v.nm (pvs v.qw) v.cap.a v.cap.b v.cap.c v.cap.d v.up (uvs v.us)) (CkR (VP v)):=λb Q K=>by
  rw[zPF];refine Wa (λe=>bad (Q e)) λe=>?_
  obtain⟨q1,M,G,J⟩:=K e;rw[zPE,QG];exact loop q1 M G J ze 0 (QI _) (zk (by omega)) (λu k=>by cases k) .nil
 rw[zRW];refine Wc (λe=>C _ (λ_ q=>?_) λe=>(by cases e)) λV=>Wc (λe=>C _ (λ_ q=>?_) λe=>(by cases e)) λR=>?_
 .have:=q.1.n1;rw[qJ]at e;omega
 .have:=q.1.n2;rw[qJ]at e;omega
 rw[qJ]at V R;obtain⟨_,O,c,rfl,⟨rfl,H⟩|⟨rfl,H⟩⟩:=zUQ v.qw h.qw
 .refine qk_i O (Wf rfl<|qk_i (zIH ..) ?_)
  by_cases D:v.cap.ok
  .rw[if_pos D];exact C _ (λe=>by cases e) λ_=>⟨by omega,by omega,H,D⟩
  .rw[if_neg D];exact C _ (λ_ q=>D q.1.cap) λe=>by cases e
 .exact qk_i O (Wt rfl (C _ (λ_ q=>H q.1.qw) λe=>by cases e))
theorem zZJ(us:List Ut)(h:Uok us)(ho:∀u∈us,u.m.ok)(p:JV)(nm:JV)(qw:JE)(c1 c2 c3 c4:Int)(up:Bool):zDv nm qw c1 c2 c3 c4 up (uvs us) p=some (amB (if(zDc (inL us p)).ok then(zDc (inL us p),true)else(.z,false))):=by
 have w:=h.wT;have loop:∀(n i:Nat)(a:List Ut),i<=us.length->us.length-i<n->a.length<=i->(∀u∈a,u.m.ok)->zBv n p (ofNat i) nm qw c1 c2 c3 c4 up (uvs us) (ofNat 0) (ofNat 0) (ofNat 0) (ofNat 0) ((a.map (·.m)).map Am.av)=some (amB (if(zDc (a++inL (us.drop i) p)).ok then(zDc (a++inL (us.drop i) p),true)else(.z,false))):=by
  intro n
  induction n with
  |zero=>intro i _ _ h;omega
  |succ n q=>
   intro i a y A B e;refine zf ?_
   rw[zKU,QG];refine Wd (λb=>zEG b ?_) λf=>?_
   .have j:us.drop i=us[i]::us.drop (i+1):=QO b;rw[zd (by omega),zAY]
    refine Wa (λg=>zEG b (We (zRK (k:=32) (show((a.map (·.m)).map Am.av).length+1<=31 by rw[QG,QG];omega) (by omega)) ?_)) λg=>?_
    .have:=q (i+1) (a++[us[i]]) b (by omega) (by rw[QC,QL,QZ];omega) λu d=>by
      rcases QK.1 d with d|d
      .exact e u d
      .rw[Qa.1 d];exact ho _ (QR b)
     rw[j,show inL (us[i]::us.drop (i+1)) p=us[i]::inL (us.drop (i+1)) p from List.filter_cons_of_pos (p:=λu:Ut=>eqS u.t p) g]
     rw[Qo,Qq,Qq]at this;exact⟨_,this,rfl⟩
    .have:=q (i+1) a b (by omega) (by omega) e
     rw[j,show inL (us[i]::us.drop (i+1)) p=inL (us.drop (i+1)) p from List.filter_cons_of_neg (p:=λu:Ut=>eqS u.t p) (by rw[g];decide)]
     exact⟨_,this,rfl⟩
   .rw[QW f];show Wp _ λv=>v=amB (if(zDc (a++[])).ok then(zDc (a++[]),true)else _)
    rw[List.append_nil];have hs:=zgQ (a.map (·.m)) (by rw[QG];omega) λx r=>by
     obtain⟨u,d,rfl⟩:=Qg.1 r;exact e u d
    show Wp _ λv=>v=amB (if(tot (a.map (·.m))).ok then(tot (a.map (·.m)),true)else _)
    by_cases hk:(tot (a.map (·.m))).ok
    .rw[if_pos hk]at hs⊢;exact zR4 hs (Wb rfl)
    .rw[if_neg hk]at hs⊢;exact zR4 hs (Wb rfl)
 rw[zMs];have:=loop ze 0 [] (QI _) (zk (by omega)) (QA _) λu d=>by cases d
 rw[List.drop_zero]at this;exact this
def zJA(us:List Ut)(p:JV)(w:Am):Prop:=(zDc (inL us p)).ok/\(zDc (inL us p)).le w
instance(us:List Ut)(p:JV)(w:Am):Decidable (zJA us p w):=by unfold zJA;infer_instance
theorem zca(us:List Ut)(h:Uok us)(ho:∀u∈us,u.m.ok)(p:JV)(w:Am)(nm:JV)(qw:JE)(c1 c2 c3 c4:Int)(up:Bool):zBC nm qw c1 c2 c3 c4 up (uvs us) p w.a w.b w.c w.d=some (.bool (decide (zJA us p w))):=by
 refine zf ?_
 rw[zMR];refine zVO (zZJ us h ho p nm qw c1 c2 c3 c4 up) ?_
 unfold zJA;by_cases hk:(zDc (inL us p)).ok
 .rw[if_pos hk];refine Wt rfl (qk_b (zUO ..) (Wb ?_))
  congr 1;exact decide_eq_decide.2 ⟨λq=>⟨hk,q⟩,λq=>q.2⟩
 .rw[if_neg hk];refine Wf rfl<|Wb ?_
  exact congrArg AV.bool (QJ λq=>hk q.1).symm
def cR(p:JV)(u:Ut):Bool:=u.g&&eqS (nmT u.j u.i) p
theorem zNm(us:List Ut)(h:Uok us)(p:JV)(nm:JV)(qw:JE)(c1 c2 c3 c4:Int)(up:Bool):∃z:Int,zAI nm qw c1 c2 c3 c4 up (uvs us) p=some (.int .i64 z)/\((z=Int.negSucc 0/\us.find? (cR p)=none)\/∃j,∃k:j<us.length,z=ofNat j/\us.find? (cR p)=some us[j]):=by
 have u:=h.wT;have loop:∀(n i:Nat),i<=us.length->us.length-i<n->us.find? (cR p)=(us.drop i).find? (cR p)->Wp (zAl n p (ofNat i) nm qw c1 c2 c3 c4 up (uvs us)) λv=>∃z:Int,v=.int .i64 z/\((z=Int.negSucc 0/\us.find? (cR p)=none)\/∃j,∃k:j<us.length,z=ofNat j/\us.find? (cR p)=some us[j]):=by
  intro n
  induction n with
  |zero=>intro i _ h;omega
  |succ n t=>
   intro i w y f;rw[zJt,QG];refine Wd (λa=>zEG a ?_) λd=>Wb ⟨_,rfl,.inl ⟨rfl,by rw[f,QW d];rfl⟩⟩
   have g:us.drop i=us[i]::us.drop (i+1):=QO a;rw[zd (by omega)]
   have next:cR p us[i]=false->Wp (zAl n p (ofNat (i+1)) nm qw c1 c2 c3 c4 up (uvs us)) λv=>∃z:Int,v=.int .i64 z/\((z=Int.negSucc 0/\us.find? (cR p)=none)\/∃j,∃k:j<us.length,z=ofNat j/\us.find? (cR p)=some us[j]):=λb=>t (i+1) a (by omega) (by rw[f,g,List.find?_cons,b])
   refine Wa (λe=>zEG a (zBV (zRJ _ (h.j _ (QR a)) _) ?_)) λe=>next (by unfold cR;rw[e];rfl)
   rw[zAY];refine Wa (λb=>Wb ⟨_,rfl,.inr ⟨i,a,rfl,?_⟩⟩) λb=>next (by unfold cR;rw[b,Bool.and_false])
   rw[f,g,List.find?_cons,show cR p us[i]=true by unfold cR;rw[e,b];rfl]
 rw[zKV];obtain⟨v,r,z,rfl,q⟩:=loop ze 0 (QI _) (zk (by omega)) rfl
 exact⟨z,r,q⟩
def VR'(v:Vw):Prop:=Fine v/\zJA v.us [] v.cap/\∀u∈v.us,(u.t≠[]->v.us.find? (cR u.t)≠none)/\(u.g=true->zJA v.us (nmT u.j u.i) u.m)
theorem zL6(v:Vw)(h:v.Ok):Wp (zAu v.nm (pvs v.qw) v.cap.a v.cap.b v.cap.c v.cap.d v.up (uvs v.us)) (CkR (VR' v)):=by
 have hL:=h.us.wT;have bad:¬VR' v->Wp (some (AV.int .i64 2)) (CkR (VR' v)):=λh=>Wb ⟨2,rfl,.inr ⟨rfl,h⟩⟩
 have F:Fine v->zJA v.us [] v.cap->∀(n i:Nat),i<=v.us.length->v.us.length-i<n->(∀u∈v.us.take i,(u.t≠[]->v.us.find? (cR u.t)≠none)/\(u.g=true->zJA v.us (nmT u.j u.i) u.m))->Wp (zBI n (ofNat i) v.nm (pvs v.qw) v.cap.a v.cap.b v.cap.c v.cap.d v.up (uvs v.us)) (CkR (VR' v)):=by
  intro Q hf n;have y:∀u∈v.us,u.m.ok:=λu f=>(zFa (Q.us u f)).2.2
  induction n with
  |zero=>intro i _ h;omega
  |succ n ih=>
   intro i hi Y L;rw[zIY,QG];refine Wd (λp=>zEG p ?_) λA=>Wb ⟨0,rfl,.inl ⟨rfl,Q,hf,by rwa [List.take_of_length_le A]at L⟩⟩
   have r:=QR p;have U:∀b:Bool,(b=true->¬VR' v)->(b=false->(v.us[i].t≠[]->v.us.find? (cR v.us[i].t)≠none)/\(v.us[i].g=true->zJA v.us (nmT v.us[i].j v.us[i].i) v.us[i].m))->Wp (zC n (ofNat i) b v.nm (pvs v.qw) v.cap.a v.cap.b v.cap.c v.cap.d v.up (uvs v.us)) (CkR (VR' v)):=λb B J=>by
    rw[zJf];refine Wa (λe=>bad (B e)) λe=>?_
    rw[zJe,zd (by omega)]
    refine ih (i+1) p (by omega) λu f=>?_
    rw[zBa p]at f;rcases QK.1 f with f|f
    .exact L u f
    .rw[Qa.1 f];exact J e
   have E:(v.us[i].t≠[]->v.us.find? (cR v.us[i].t)≠none)->Wp (br v.us[i].g (dK false [K.s] (zAa v.us[i].j v.us[i].i) λs2=>dK false [K.b] (zBC v.nm (pvs v.qw) v.cap.a v.cap.b v.cap.c v.cap.d v.up (uvs v.us) s2 v.us[i].m.a v.us[i].m.b v.us[i].m.c v.us[i].m.d) λb2=>zC n (ofNat i) (!b2) v.nm (pvs v.qw) v.cap.a v.cap.b v.cap.c v.cap.d v.up (uvs v.us)) (zC n (ofNat i) false v.nm (pvs v.qw) v.cap.a v.cap.b v.cap.c v.cap.d v.up (uvs v.us))) (CkR (VR' v)):=λh1=>by
    refine Wa (λw=>zBV (zRJ _ (h.us.j _ r) _) (qk_b (zca v.us h.us y _ v.us[i].m v.nm (pvs v.qw) v.cap.a v.cap.b v.cap.c v.cap.d v.up) ?_)) λw=>U _ (λe=>by cases e) λ_=>⟨h1,λe=>by rw[w]at e;cases e⟩
    refine U _ (λe q=>?_) λe=>⟨h1,λ_=>by simpa using e⟩
    rw[QM ((q.2.2 _ r).2 w)]at e;cases e
   rw[zAY];by_cases G:v.us[i].t=[]
   .rw[show eqS v.us[i].t []=true from QM G]
    exact E λe=>absurd G e
   .rw[show eqS v.us[i].t []=false from QJ G]
    obtain⟨z,hz,⟨rfl,Y⟩|⟨j,R,rfl,hs⟩⟩:=zNm v.us h.us v.us[i].t v.nm (pvs v.qw) v.cap.a v.cap.b v.cap.c v.cap.d v.up
    .exact qk_i hz (Wc (λ_=>U _ (λ_ q=>(q.2.2 _ r).1 G Y) λe=>by cases e) λe=>by exact absurd (show Int.negSucc 0<0 by decide) e)
    .exact qk_i hz (Wc (λe=>by exact absurd e (Int.not_lt.2 (QU _))) λ_=>E λ_=>by rw[hs];simp)
 have loop:1<=v.nm.length->v.nm.length<=16->zF3 v.qw->v.cap.ok->∀(n i:Nat),i<=v.us.length->v.us.length-i<n->(∀u∈v.us.take i,zII u=true)->((v.us.take i).map tsk).Nodup->Wp (zBJ n (ofNat i) v.nm (pvs v.qw) v.cap.a v.cap.b v.cap.c v.cap.d v.up (uvs v.us)) (CkR (VR' v)):=by
  intro q1 q2 V X n
  induction n with
  |zero=>intro i _ h;omega
  |succ n ih=>
   intro i hi Y L I;rw[zIZ,QG];refine Wd (λp=>zEG p ?_) λA=>?_
   .have r:=QR p;have G:(v.us.take (i+1)).map tsk=(v.us.take i).map tsk++[tsk v.us[i]]:=by rw[zBa p,Qq];rfl
    have inner:zII v.us[i]=true->∀(m k:Nat),k<=i->i-k<m->(∀j (R:j<v.us.length),j<k->tsk v.us[j]≠tsk v.us[i])->Wp (zBH n m (ofNat i) (ofNat k) v.nm (pvs v.qw) v.cap.a v.cap.b v.cap.c v.cap.d v.up (uvs v.us) v.us[i].j v.us[i].i v.us[i].bd v.us[i].m.a v.us[i].m.b v.us[i].m.c v.us[i].m.d v.us[i].t v.us[i].g) (CkR (VR' v)):=by
     intro aa m
     induction m with
     |zero=>intro k _ h;omega
     |succ m S=>
      intro k hk hm O;rw[zIX];refine Wd (λT=>zEG (i:=k) (by omega) ?_) λA=>?_
      .show Wp (br (zo v.us[k].j v.us[i].j&&v.us[k].i==v.us[i].i) _ _) _
       refine Wa (λe=>bad λq=>?_) λe=>?_
       .have e:v.us[k].j=v.us[i].j/\v.us[k].i=v.us[i].i:=by rw[zY]at e;simpa using e
        have C:((v.us.take (i+1)).map tsk).Nodup:=q.1.nd.sublist ((List.take_sublist _ _).map _);rw[G]at C;have H:tsk v.us[i]∈(v.us.take i).map tsk:=Qg.2 ⟨v.us[k],by rw[List.mem_take_iff_getElem];exact⟨k,by omega,rfl⟩,by unfold tsk;rw[e.1,e.2]⟩
        exact(List.nodup_append.1 C).2.2 _ H _ (Qa.2 rfl) rfl
       .rw[zd (by omega)]
        refine S (k+1) T (by omega) λj R ab=>?_
        by_cases h2:j<k
        .exact O j R h2
        .have:j=k:=by omega
         subst this;intro q;have q:v.us[j].j=v.us[i].j/\v.us[j].i=v.us[i].i:=⟨congrArg Prod.fst q,congrArg Prod.snd q⟩;rw[zY,q.1,q.2]at e;simp at e
      .rw[zJb,zd (by omega)]
       refine ih (i+1) p (by omega) (λu f=>?_) ?_
       .rw[zBa p]at f;rcases QK.1 f with f|f
        .exact L u f
        .rw[Qa.1 f];exact aa
       .rw[G];refine zNl I λH=>?_
        obtain⟨u,f,e⟩:=Qg.1 H;rw[List.mem_take_iff_getElem]at f;obtain⟨j,R,rfl⟩:=f;exact O j (by omega) (by omega) e
    have D:∀b:Bool,b=!zII v.us[i]->Wp (zI n (ofNat i) b v.nm (pvs v.qw) v.cap.a v.cap.b v.cap.c v.cap.d v.up (uvs v.us) v.us[i].j v.us[i].i v.us[i].bd v.us[i].m.a v.us[i].m.b v.us[i].m.c v.us[i].m.d v.us[i].t v.us[i].g) (CkR (VR' v)):=λb B=>by
     rw[zJd];refine Wa (λe=>bad λq=>?_) λe=>?_
     .rw[e,q.1.us _ r]at B;cases B
     .rw[zJc];exact inner (by rw[e]at B;simpa using B.symm) ze 0 (QI _) (zk (by omega)) λj _ R=>by omega
    have ef:zII v.us[i]=(tk v.us[i].j v.us[i].i&&(!(v.us[i].g&&!eqS v.us[i].t [])&&decide ((0<=v.us[i].bd/\v.us[i].bd<=3)/\v.us[i].m.ok))):=rfl;refine Wc (λe=>D _ ?_) λe1=>Wc (λe=>D _ ?_) λe2=>qk_i (zSy ..) ?_
    .rw[ef,QJ (by omega),Bool.and_false,Bool.and_false];rfl
    .rw[ef,QJ (by omega),Bool.and_false,Bool.and_false];rfl
    by_cases y:v.us[i].m.ok
    .rw[if_pos y];refine Wf rfl<|zBV (zRJ _ (h.us.j _ r) _) ?_
     rw[ef,QM (show(0<=v.us[i].bd/\v.us[i].bd<=3)/\v.us[i].m.ok from⟨by omega,y⟩),QV]at D
     rw[zY];refine Wc (λe=>D _ ?_) λe=>?_
     .rw[zYb.1 e];rfl
     .have e:tk v.us[i].j v.us[i].i=true:=by
       cases hk:tk v.us[i].j v.us[i].i with
       |true=>rfl
       |false=>exact absurd (zYb.2 hk) e
      rw[e,Bool.true_and,Bool.not_not]at D;refine Wa (λw=>D _ ?_) λw=>D _ ?_
      .rw[w,zAY];rfl
      .rw[w];rfl
    .rw[if_neg y];refine Wt rfl (D _ ?_)
     rw[ef,QJ λq=>y q.2,Bool.and_false,Bool.and_false];rfl
   .rw[List.take_of_length_le A]at L I;have Q:Fine v:=⟨q1,q2,V,X,L,I⟩;have y:∀u∈v.us,u.m.ok:=λu f=>(zFa (Q.us u f)).2.2
    refine qk_b (zca v.us h.us y [] v.cap v.nm (pvs v.qw) v.cap.a v.cap.b v.cap.c v.cap.d v.up) (Wa (λe=>bad λq=>?_) λe=>?_)
    .rw[QM q.2.1]at e;cases e
    .exact F Q (by simpa using e) ze 0 (QI _) (zk (by omega)) λu f=>by cases f
 have M:∀b:Bool,(b=true->¬VR' v)->(b=false->1<=v.nm.length/\v.nm.length<=16/\zF3 v.qw/\v.cap.ok)->Wp (zAg b v.nm (pvs v.qw) v.cap.a v.cap.b v.cap.c v.cap.d v.up (uvs v.us)) (CkR (VR' v)):=λb B J=>by
  rw[zJh];refine Wa (λe=>bad (B e)) λe=>?_
  obtain⟨q1,q2,V,X⟩:=J e;rw[zJg];exact loop q1 q2 V X ze 0 (QI _) (zk (by omega)) (λu f=>by cases f) .nil
 rw[zKf];refine Wc (λe=>M _ (λ_ q=>?_) λe=>(by cases e)) λe1=>Wc (λe=>M _ (λ_ q=>?_) λe=>(by cases e)) λe2=>?_
 .have:=q.1.n1;rw[qJ]at e;omega
 .have:=q.1.n2;rw[qJ]at e;omega
 rw[qJ]at e1 e2;obtain⟨_,hv,c,rfl,⟨rfl,W⟩|⟨rfl,W⟩⟩:=zZG v.qw h.qw
 .refine qk_i hv (Wf rfl<|qk_i (zSy ..) ?_)
  by_cases y:v.cap.ok
  .rw[if_pos y];exact M _ (λe=>by cases e) λ_=>⟨by omega,by omega,W,y⟩
  .rw[if_neg y];exact M _ (λ_ q=>y q.1.cap) λe=>by cases e
 .exact qk_i hv (Wt rfl (M _ (λ_ q=>W q.1.qw) λe=>by cases e))
theorem zWs{α β:Type}{f:α->β}:∀{l:List α},(l.map f).Nodup->∀x∈l,∀y∈l,f x=f y->x=y
 |[],_,_,h,_,_,_=>by cases h
 |a::l,g,x,k,y,j,e=>by
  rw[Qe,Qz]at g;rcases QH.1 k with rfl|d
  .rcases QH.1 j with rfl|b
   .rfl
   .exact absurd (e▸List.mem_map_of_mem b) g.1
  .rcases QH.1 j with rfl|b
   .exact absurd (e▸List.mem_map_of_mem d) g.1
   .exact zWs g.2 x d y b e
theorem zUS{α:Type}{p q:α->Bool}:∀{l:List α},(∀x∈l,p x=q x)->l.find? p=l.find? q
 |[],_=>rfl
 |a::l,h=>by rw[List.find?_cons,List.find?_cons,h a (.head _),zUS λx b=>h x (.tail _ b)]
theorem zgR{v:Vw}(h:Fine v)(p:JV):v.us.find? (cP p)=v.us.find? (cR p):=zUS λu b=>by
 obtain⟨h1,a,_⟩:=zFa (h.us u b);unfold cP cR;rw[h1];cases hg:u.g with
 |false=>rfl
 |true=>rw[show eqS u.t []=true from QM (a hg)];rfl
theorem zSz{us:List Ut}{p:JV}{u:Ut}(h:us.find? (cR p)=some u):u∈us/\u.g=true/\nmT u.j u.i=p:=by
 have h1:=List.find?_some h;unfold cR eqS at h1;simp only[qr,decide_eq_true_eq]at h1;exact⟨List.mem_of_find?_eq_some h,h1⟩
theorem zUT{us:List Ut}(h:∀u∈us,u.m.ok)(p:JV):∀u∈inL us p,u.m.ok:=λu a=>h u (List.mem_filter.1 a).1
theorem zZK{us:List Ut}(h:∀u∈us,u.m.ok):(zDc us).nn:=zUP λx b=>by
 obtain⟨u,a,rfl⟩:=Qg.1 b;exact h u a
theorem zdo{x y:Am}(hx:x.nn)(a:y.ok)(h:x.le y):x.ok:=by unfold Am.ok okA Am.nn Am.le zFp at *;omega
theorem zhV{x:Am}(h:x.ok):Am.z.le x:=by unfold Am.ok okA Am.le zFp Am.z at *;simp only;omega
def whole(v:Vw)(p:JV):Option Am:=if p=[]then some v.cap else(v.us.find? (cR p)).map (·.m)
theorem zVz{v:Vw}(h:Fine v)(p:JV):zIJ v.cap v.us p=match whole v p with
  |some w=>if(zDc (inL v.us p)).le w then(w.sub (zDc (inL v.us p)),true)else(.z,false)
  |none=>(.z,false):=by
 have b:∀u∈v.us,u.m.ok:=λu d=>(zFa (h.us u d)).2.2
 unfold zIJ whole;by_cases a:p=[]
 .rw[if_pos a,if_pos a];exact zTw _ _ h.cap (zUT b p)
 .rw[if_neg a,if_neg a,zgR h];cases hf:v.us.find? (cR p)with
  |none=>rfl
  |some u=>exact zTw _ _ (b u (zSz hf).1) (zUT b p)
theorem zUU(v:Vw):VP v↔VR' v:=by
 constructor
 .rintro ⟨hF,hr⟩
  have C:∀u∈v.us,u.m.ok:=λu a=>(zFa (hF.us u a)).2.2
  have A:=λp=>zZK (zUT C p)
  have room:∀u∈v.us,∃w,whole v u.t=some w/\(zDc (inL v.us u.t)).le w:=λu a=>by
   have:=hr u a;rw[zVz hF]at this;cases f:whole v u.t with
   |none=>rw[f]at this;cases this
   |some w=>
    rw[f]at this;by_cases g:(zDc (inL v.us u.t)).le w
    .exact⟨w,rfl,g⟩
    .simp only[if_neg g]at this;cases this
  have empty:∀p w,Am.ok w->(∀u∈v.us,u.t=p->(zDc (inL v.us p)).le w)->zJA v.us p w:=λp w f k=>by
   have g:(zDc (inL v.us p)).le w:=by
    cases hi:inL v.us p with
    |nil=>exact zhV f
    |cons u r=>
     have a:u∈inL v.us p:=by rw[hi];exact .head _
     have:=List.mem_filter.1 a;rw[←hi];exact k u this.1 (QP this.2)
   exact⟨zdo (A p) f g,g⟩
  refine⟨hF,empty [] v.cap hF.cap λu a e=>?_,λu a=>⟨λb=>?_,λG=>?_⟩⟩
  .obtain⟨w,h1,d⟩:=room u a;rw[e]at h1 d;cases h1;exact d
  .obtain⟨w,h1,_⟩:=room u a;unfold whole at h1;rw[if_neg b]at h1;intro D;rw[D]at h1;cases h1
  .obtain⟨hk,_,E⟩:=zFa (hF.us u a);refine empty _ u.m E λx k e=>?_
   obtain⟨w,h1,d⟩:=room x k;rw[e]at h1 d;unfold whole at h1;rw[if_neg λq=>by rw[zYb.1 q]at hk;cases hk]at h1
   cases hf:v.us.find? (cR (nmT u.j u.i))with
   |none=>rw[hf]at h1;cases h1
   |some y=>
    rw[hf]at h1;cases h1;obtain⟨h,z,y3⟩:=zSz hf;obtain⟨F,B⟩:=zfb (zFa (hF.us y h)).1 hk y3;have:y=u:=zWs hF.nd y h u a (by unfold tsk;rw[F,B])
    subst this;exact d
 .rintro ⟨hF,h0,h1⟩
  refine⟨hF,λu a=>?_⟩
  rw[zVz hF];unfold whole;by_cases b:u.t=[]
  .rw[if_pos b,b];simp only[if_pos h0.2]
  .rw[if_neg b];cases hf:v.us.find? (cR u.t)with
   |none=>exact absurd hf ((h1 u a).1 b)
   |some y=>
    obtain⟨h,z,y3⟩:=zSz hf;have:=(h1 y h).2 z;rw[y3]at this;simp only[Option.map_some,if_pos this.2]
structure Nx where
 j:JV
 bd:Int
 m:Am
 r:JE
 t:JV
structure Nx.Ok(n:Nx):Prop where
 j:n.j.length<=2000000
 r:Nds n.r
 t:n.t.length<=2000000
def zdH:JE:=[nd6 (ofNat 1) [] [] (ofNat 0) (Int.negSucc 0) (Int.negSucc 0)]
structure NP0(n:Nx):Prop where
 j:z9 16 n.j=true
 b0:0<=n.bd
 b3:n.bd<=3
 m:n.m.ok
 z:¬(n.m.a=0/\n.m.b=0/\n.m.c=0/\n.m.d=0)
 r:zDs n.r=some (.int .i64 0)
def NP(n:Nx):Prop:=NP0 n/\(n.t≠[]->z9 16 n.t=true/\n.r=zdH)
theorem zb(a b c d:Int):(a==0&&(b==0&&(c==0&&d==0)))=decide (a=0/\b=0/\c=0/\d=0):=by
 rw[Bool.eq_iff_iff];simp
theorem NP0.fl{n:Nx}(h:n.Ok)(b:NP0 n):zZ n.r=some (.int .i64 0)/\∃t:RT,n.r=t.fl 0/\t.wf/\t.size<=64:=by
 obtain⟨c,h1,a,⟨rfl,d⟩|rfl⟩:=zRI h.r
 .exact⟨a,d⟩
 .rw[b.r]at h1;cases h1
theorem zQN(n:Nx)(h:n.Ok):Wp (zHV n.j n.bd n.m.a n.m.b n.m.c n.m.d n.r n.t) (CkR (NP n)):=by
 have p:∀b:Bool,(b=true->NP n)->(b=false->¬NP n)->Wp (zDj b) (CkR (NP n)):=λb h1 k=>by
  rw[zPC];cases b with
  |true=>exact Wb ⟨0,rfl,.inl ⟨rfl,h1 rfl⟩⟩
  |false=>exact Wb ⟨2,rfl,.inr ⟨rfl,k rfl⟩⟩
 have D:∀b:Bool,(b=true->NP0 n)->(b=false->¬NP0 n)->Wp (zAT b n.j n.bd n.m.a n.m.b n.m.c n.m.d n.r n.t) (CkR (NP n)):=λb h1 k=>by
  rw[zPD,zY];refine Wa (λe=>Wa (λf=>?_) λf=>p _ (λe=>by cases e) λ_ q=>k f q.1) λe=>p b (λf=>⟨h1 f,λu=>by simp[u]at e⟩) λf q=>k f q.1
  have u:n.t≠[]:=by simpa using e
  have C:=h1 f;obtain⟨_,t,g,v,A⟩:=C.fl h;refine qk_b (zVx n.t h.t) (Wa (λy=>?_) λy=>p _ (λe=>by cases e) λ_ q=>by rw[(q.2 u).1]at y;cases y)
  refine qk_b (zTu n.r zdH (by rw[g];exact zGD t 0) (zGD (.leaf 1 [] [] 0) 0) h.r.2) (p _ (λe=>⟨C,λ_=>⟨y,QP e⟩⟩) λe q=>Qk e (q.2 u).2)
 have no:¬NP0 n->Wp (zAT false n.j n.bd n.m.a n.m.b n.m.c n.m.d n.r n.t) (CkR (NP n)):=λq=>D false (λe=>by cases e) λ_=>q
 rw[zRR];refine qk_b (zVx n.j h.j) (Wa (λg=>Wc (λv=>Wc (λA=>qk_i (zIH ..) ?_) λA=>no λq=>A q.b3) λv=>no λq=>v q.b0) λg=>no λq=>by rw[q.j]at g;cases g)
 by_cases w:n.m.ok
 .rw[if_pos w,zb];refine Wt rfl (Wa (λB=>?_) λB=>no λq=>by simp[q.z]at B)
  obtain⟨c,h1,k,hc⟩:=zRI h.r;refine qk_i h1 (D _ (λe=>⟨g,v,A,w,λq=>(by simp[q]at B),by rw[h1,show c=0 by simpa using e]⟩) λe q=>?_)
  have:=h1.symm.trans q.r;simp at this;subst this;cases e
 .rw[if_neg w];exact Wf rfl<|no λq=>w q.m
theorem zOY(n:Nx)(h:n.Ok):Wp (zBg n.j n.bd n.m.a n.m.b n.m.c n.m.d n.r n.t) (CkR (NP n)):=by
 have bad:¬NP n->Wp (some (AV.int .i64 2)) (CkR (NP n)):=λh=>Wb ⟨2,rfl,.inr ⟨rfl,h⟩⟩
 have f:NP n->Wp (some (AV.int .i64 0)) (CkR (NP n)):=λh=>Wb ⟨0,rfl,.inl ⟨rfl,h⟩⟩
 have A:∀b:Bool,(b=false->NP0 n)->(b=true->¬NP0 n)->Wp (zB b n.j n.bd n.m.a n.m.b n.m.c n.m.d n.r n.t) (CkR (NP n)):=λb h1 v=>by
  rw[zJa];refine Wa (λe=>bad λq=>v e q.1) λD=>?_
  have w:=h1 D;rw[zI9,zY];refine Wa (λe=>?_) λe=>f ⟨w,λk=>by simp[k]at e⟩
  have k:n.t≠[]:=by simpa using e
  obtain⟨_,t,g,B,C⟩:=w.fl h;refine qk_b (zRH n.t h.t) (Wa (λu=>bad λq=>by rw[(q.2 k).1]at u;cases u) λu=>?_)
  rw[zgO,zf5];refine qk_b (zP9 n.r zdH (by rw[g];exact zGD t 0) (zGD (.leaf 1 [] [] 0) 0) h.r.2) (Wa (λe=>bad λq=>?_) λe=>f ⟨w,λ_=>⟨by simpa using u,by simpa using e⟩⟩)
  simp[(q.2 k).2]at e
 have no:¬NP0 n->Wp (zB true n.j n.bd n.m.a n.m.b n.m.c n.m.d n.r n.t) (CkR (NP n)):=λq=>A true (λe=>by cases e) λ_=>q
 rw[zKe];refine qk_b (zRH n.j h.j) (Wa (λg=>no λq=>by rw[q.j]at g;cases g) λg=>Wc (λB=>no λq=>by have:=q.b0;omega) λB=>Wc (λC=>no λq=>by have:=q.b3;omega) λC=>qk_i (zSy ..) ?_)
 by_cases p:n.m.ok
 .rw[if_pos p,zb];refine Wf rfl<|Wa (λy=>no λq=>q.z (QP y)) λy=>?_
  obtain⟨c,h1,v,hc⟩:=zRI h.r;refine qk_i v (A _ (λe=>⟨by simpa using g,by omega,by omega,p,Qk y,by rw[h1,show c=0 by simpa using e]⟩) λe q=>?_)
  have:=h1.symm.trans q.r;simp at this;subst this;cases e
 .rw[if_neg p];exact Wt rfl (no λq=>p q.m)
theorem zL7{o:JF}{P:Prop}(h:Wp o (CkR P))(p:P):o=some (.int .i64 0):=by
 obtain⟨_,e,c,rfl,⟨rfl,_⟩|⟨rfl,q⟩⟩:=h
 .exact e
 .exact absurd p q
def zMj:Am->List Ut->Am
 |a,[]=>a
 |a,u::l=>zMj (zR3 a u.m).1 l
def zRM(m r:Am)(g:List Ut):Int:=if m.le r then 2 else if m.le (zMj r g)then 1 else 0
def zCO(n:Nx)(v:Vw)(p:JV):Int:=zRM n.m (zIJ v.cap v.us p).1 (goL n.bd v.us p)
theorem zZL(bd:Int)(us:List Ut)(p:JV):(goL bd us p).length<=us.length:=List.length_filter_le _ _
theorem zcb(n:Nx)(v:Vw)(h:v.Ok)(p:JV):zQi n.j n.bd n.m.a n.m.b n.m.c n.m.d n.r n.t v.nm (pvs v.qw) v.cap.a v.cap.b v.cap.c v.cap.d v.up (uvs v.us) p=some (.int .i64 (zCO n v p)):=by
 have u:=h.us.wT;have q:=zZL n.bd v.us p;have loop:∀(m i:Nat)(a:Am),i<=(goL n.bd v.us p).length->(goL n.bd v.us p).length-i<m->zL8 m (uvs (goL n.bd v.us p)) (ofNat (goL n.bd v.us p).length) (ofNat i) n.j n.bd n.m.a n.m.b n.m.c n.m.d n.r n.t a.a a.b a.c a.d=some (.int .i64 (if n.m.le (zMj a ((goL n.bd v.us p).drop i))then 1 else 0)):=by
  intro m
  induction m with
  |zero=>intro i _ _ h;omega
  |succ m k=>
   intro i a w y;refine zf ?_
   rw[zVF];refine Wd (λf=>zEG f (zR4 (zYa a _) ?_)) λg=>?_
   .rw[zd (by omega),QO f]
    exact⟨_,k (i+1) _ f (by omega),rfl⟩
   .rw[QW g];refine qk_b (zMz ..) (Wc (λe=>Wb ?_) λe=>Wb ?_)
    .rw[if_pos (show n.m.le (zMj a [])from e)];rfl
    .rw[if_neg (show ¬n.m.le (zMj a [])from e)];rfl
 refine zf ?_
 rw[zY1];refine zVO (zTx v.us h.us p v.nm _ v.cap v.up) (qk_b (zMz ..) (Wc (λe=>Wb ?_) λe=>zUG (zb6 v.us h.us p ..) ?_))
 .unfold zCO zRM;rw[if_pos (show n.m.le _ from e)];rfl
 .have:=loop ze 0 (zIJ v.cap v.us p).1 (QI _) (zk (by omega))
  rw[QG];refine⟨_,this,?_⟩
  unfold zCO zRM;rw[if_neg (show ¬n.m.le _ from e)];rfl
def Plc(v:Vw)(p:JV):Prop:=p=[]\/∃u∈v.us,u.g=true/\nmT u.j u.i=p
theorem zTy{v:Vw}(h:VR' v){p:JV}(d:Plc v p):∃w:Am,w.ok/\whole v p=some w/\zJA v.us p w/\(p≠[]->∃u,v.us.find? (cR p)=some u/\u.m=w):=by
 by_cases e:p=[]
 .subst e;exact⟨v.cap,h.1.cap,by unfold whole;rw[if_pos rfl],h.2.1,λq=>absurd rfl q⟩
 .obtain rfl|⟨u,f,b,g⟩:=d
  .exact absurd rfl e
  .cases hf:v.us.find? (cR p)with
   |none=>
    have:=List.find?_eq_none.1 hf u f;exact absurd (show cR p u=true by unfold cR;rw[b,g];show eqS p p=true;exact QM rfl) this
   |some y=>
    obtain⟨a,j,y3⟩:=zSz hf;refine⟨y.m,(zFa (h.1.us y a)).2.2,by unfold whole;rw[if_neg e,hf];rfl,?_,λ_=>⟨y,rfl,rfl⟩⟩
    have:=(h.2.2 y a).2 j
    rwa [y3]at this
theorem zZM{v:Vw}(h:VR' v){p:JV}{w:Am}(a:whole v p=some w)(b:zJA v.us p w):zIJ v.cap v.us p=(w.sub (zDc (inL v.us p)),true):=by
 rw[zVz h.1,a];exact if_pos b.2
theorem zcc(v:Vw)(h:v.Ok)(q:VR' v)(p:JV)(E:Plc v p):zDQ v.nm (pvs v.qw) v.cap.a v.cap.b v.cap.c v.cap.d v.up (uvs v.us) p=some (amE ((zIJ v.cap v.us p).1,0)):=by
 obtain⟨w,r,f,g,k⟩:=zTy q E;have F:∀u∈v.us,u.m.ok:=λu k=>(zFa (q.1.us u k)).2.2
 have G:=zZM q f g;have C:Wp (zC1 p v.nm (pvs v.qw) v.cap.a v.cap.b v.cap.c v.cap.d v.up (uvs v.us) (ofNat 0) (ofNat 0) (ofNat 0) (ofNat 0)) λx=>x=amE ((zIJ v.cap v.us p).1,0):=by
  rw[zLj];have A:=zZJ v.us h.us F p v.nm (pvs v.qw) v.cap.a v.cap.b v.cap.c v.cap.d v.up;rw[if_pos g.1]at A;refine zVO A ?_
  have D:zFj v.nm (pvs v.qw) v.cap.a v.cap.b v.cap.c v.cap.d v.up (uvs v.us) p=some w.av:=by
   refine zf ?_
   rw[zMu,zY];refine Wc (λe=>Wb ?_) λe=>?_
   .unfold whole at f;rw[if_pos e]at f;cases f;rfl
   .obtain⟨u,h1,rfl⟩:=k e;obtain⟨z,t,⟨_,y⟩|⟨j,B,rfl,hs⟩⟩:=zNm v.us h.us p v.nm (pvs v.qw) v.cap.a v.cap.b v.cap.c v.cap.d v.up
    .rw[y]at h1;cases h1
    .rw[hs]at h1;cases h1;exact qk_i t (zEG B (Wb rfl))
  refine zCC D ?_
  have hs:=zgP w (zDc (inL v.us p));rw[show zHR w (zDc (inL v.us p))=(w.sub (zDc (inL v.us p)),0) by unfold zHR;rw[if_pos ⟨r,g.1⟩,if_pos g.2]]at hs
  refine zR4 hs (Wb ?_)
  rw[G];rfl
 refine zf ?_
 rw[zMS,zY];refine qk_i (zL7 (zL6 v h) q) (Wf rfl<|Wa (λe=>?_) λ_=>C)
 have e:p≠[]:=by simpa using e
 obtain⟨u,h1,rfl⟩:=k e;obtain⟨z,t,⟨_,y⟩|⟨j,B,rfl,hs⟩⟩:=zNm v.us h.us p v.nm (pvs v.qw) v.cap.a v.cap.b v.cap.c v.cap.d v.up
 .rw[y]at h1;cases h1
 .exact qk_i t (Wc (λe=>by exact absurd e (Int.not_lt.2 (QU _))) λ_=>C)
theorem zfe(n:Nx)(E:n.Ok)(G:NP n)(v:Vw)(h:v.Ok)(M:VR' v)(p:JV)(R:Plc v p):zFk n.j n.bd n.m.a n.m.b n.m.c n.m.d n.r n.t v.nm (pvs v.qw) v.cap.a v.cap.b v.cap.c v.cap.d v.up (uvs v.us) p=some (.qc [.qg 9 (uvs (goL n.bd v.us p)),.int .i64 0]):=by
 have T:=h.us.wT;obtain⟨w,O,U,V,S⟩:=zTy M R;have loop:∀(m i:Nat)(f:List Ut),i<=v.us.length->v.us.length-i<m->f.length<=i->zCn m p (ofNat i) n.j n.bd n.m.a n.m.b n.m.c n.m.d n.r n.t v.nm (pvs v.qw) v.cap.a v.cap.b v.cap.c v.cap.d v.up (uvs v.us) (uvs f)=some (.qc [.qg 9 (uvs (f++goL n.bd (v.us.drop i) p)),.int .i64 0]):=by
  intro m
  induction m with
  |zero=>intro i _ _ h;omega
  |succ m L=>
   intro i f W X Y;refine zf ?_
   rw[zKg,QG];refine Wd (λq=>zEG q ?_) λD=>Wb ?_
   .have I:v.us.drop i=v.us[i]::v.us.drop (i+1):=QO q;have A:∀b:Bool,b=gof n.bd p v.us[i]->Wp (zAJ m p (ofNat i) b n.j n.bd n.m.a n.m.b n.m.c n.m.d n.r n.t v.nm (pvs v.qw) v.cap.a v.cap.b v.cap.c v.cap.d v.up (uvs v.us) v.us[i].j v.us[i].i v.us[i].bd v.us[i].m.a v.us[i].m.b v.us[i].m.c v.us[i].m.d v.us[i].t v.us[i].g (uvs f)) λx=>x=.qc [.qg 9 (uvs (f++goL n.bd (v.us.drop i) p)),.int .i64 0]:=λb K=>by
     rw[zKX];refine Wa (λF=>We (zRK (k:=88) (show(uvs f).length+1<=31 by rw[QG];omega) (by omega)) ?_) λF=>?_
     .rw[zGe,zd (by omega)]
      have:=L (i+1) (f++[v.us[i]]) q (by omega) (by rw[QC,QL,QZ];omega)
      rw[I,show goL n.bd (v.us[i]::v.us.drop (i+1)) p=v.us[i]::goL n.bd (v.us.drop (i+1)) p from List.filter_cons_of_pos (K.symm.trans F)]
      rw[Qo,zQe]at this;exact⟨_,this,rfl⟩
     .rw[zGe,zd (by omega)]
      have:=L (i+1) f q (by omega) (by omega)
      rw[I,show goL n.bd (v.us[i]::v.us.drop (i+1)) p=goL n.bd (v.us.drop (i+1)) p from List.filter_cons_of_neg (by rw[←K,F];decide)]
      exact⟨_,this,rfl⟩
    rw[zAY];have B:gof n.bd p v.us[i]=(!v.us[i].g&&(eqS v.us[i].t p&&(decide (v.us[i].bd<n.bd)&&decide (v.us[i].bd<2)))):=rfl;refine Wa (λy=>Wa (λC=>Wa (λH=>A _ ?_) λH=>A _ ?_) λC=>A _ ?_) λy=>A _ ?_
    .rw[B,y,C,H];rfl
    .rw[B,y,C,H];rfl
    .rw[B,y,C];rfl
    .rw[B,y];rfl
   .rw[QW D];show _=AV.qc [AV.qg 9 (uvs (f++[])),_]
    rw[List.append_nil];rfl
 have J:Wp (zAK p false n.j n.bd n.m.a n.m.b n.m.c n.m.d n.r n.t v.nm (pvs v.qw) v.cap.a v.cap.b v.cap.c v.cap.d v.up (uvs v.us)) λx=>x=.qc [.qg 9 (uvs (goL n.bd v.us p)),.int .i64 0]:=by
  rw[zKZ,zAP,zKY];exact⟨_,loop ze 0 [] (QI _) (zk (by omega)) (QA _),rfl⟩
 refine zf ?_
 rw[zMv,zY];refine qk_i (zL7 (zOY n E) G) (Wf rfl<|qk_i (zL7 (zL6 v h) M) (Wf rfl<|Wa (λe=>?_) λ_=>J))
 have e:p≠[]:=by simpa using e
 obtain⟨u,h1,rfl⟩:=S e;obtain⟨z,Q,⟨_,G⟩|⟨j,hj,rfl,hs⟩⟩:=zNm v.us h.us p v.nm (pvs v.qw) v.cap.a v.cap.b v.cap.c v.cap.d v.up
 .rw[G]at h1;cases h1
 .refine qk_i Q ?_
  rw[show decide (ofNat j<0)=false from QJ (Int.not_lt.2 (QU _))]
  exact J
theorem zZN(n:Nx)(k:n.Ok)(w:NP n)(v:Vw)(h:v.Ok)(u:VR' v)(p:JV)(q:Plc v p):zDx n.j n.bd n.m.a n.m.b n.m.c n.m.d n.r n.t v.nm (pvs v.qw) v.cap.a v.cap.b v.cap.c v.cap.d v.up (uvs v.us) p=some (.int .i64 (zCO n v p)):=by
 have A:=h.us.wT;have z:=zZL n.bd v.us p;have loop:∀(m i:Nat)(a:Am),i<=(goL n.bd v.us p).length->(goL n.bd v.us p).length-i<m->zCH m (uvs (goL n.bd v.us p)) (ofNat i) n.j n.bd n.m.a n.m.b n.m.c n.m.d n.r n.t a.a a.b a.c a.d=some (.int .i64 (if n.m.le (zMj a ((goL n.bd v.us p).drop i))then 1 else 0)):=by
  intro m
  induction m with
  |zero=>intro i _ _ h;omega
  |succ m y=>
   intro i a B C;refine zf ?_
   rw[zK0,QG];refine Wd (λf=>zEG f (zR4 (zdS a _) ?_)) λg=>?_
   .rw[zd (by omega),QO f]
    exact⟨_,y (i+1) _ f (by omega),rfl⟩
   .rw[QW g];refine qk_b (zUO ..) (Wc (λe=>Wb ?_) λe=>Wb ?_)
    .rw[if_pos (show n.m.le (zMj a [])from e)];rfl
    .rw[if_neg (show ¬n.m.le (zMj a [])from e)];rfl
 refine zf ?_
 rw[zMw];refine zR4 (zcc v h u p q) (qk_b (zUO ..) (Wc (λe=>Wb ?_) λe=>zc3 (zfe n k w v h u p q) ?_))
 .unfold zCO zRM;rw[if_pos (show n.m.le _ from e)];rfl
 .have:=loop ze 0 (zIJ v.cap v.us p).1 (QI _) (zk (by omega))
  refine⟨_,this,?_⟩
  unfold zCO zRM;rw[if_neg (show ¬n.m.le _ from e)];rfl
structure St where
 k:Int
 p:JV
 x:Int
def bet(n:Nx)(v:Vw)(s:St)(u:Ut):Bool:=decide (zCO n v (nmT u.j u.i) > s.k)||(zCO n v (nmT u.j u.i)==s.k&&(decide (zCO n v (nmT u.j u.i) > 0)&&decide (u.i<s.x)))
def zSA(n:Nx)(v:Vw)(s:St)(u:Ut):St:=if bet n v s u=true then⟨zCO n v (nmT u.j u.i),nmT u.j u.i,u.i⟩else s
def runM(n:Nx)(v:Vw)(s:St)(l:List Ut):St:=l.foldl (zSA n v) s
theorem zZO{n:Nx}{v:Vw}{s:St}{u:Ut}(h:bet n v s u=true):zSA n v s u=⟨zCO n v (nmT u.j u.i),nmT u.j u.i,u.i⟩:=if_pos h
theorem zZP{n:Nx}{v:Vw}{s:St}{u:Ut}(h:bet n v s u=false):zSA n v s u=s:=if_neg (by rw[h];decide)
def stE(s:St):AV:=.qc [.int .i64 s.k,.str s.p,.int .i64 0]
theorem zff(n:Nx)(v:Vw)(h:v.Ok)(g:List Ut)(C:Uok g):∀(m i:Nat)(s:St),i<=g.length->g.length-i<m->zHs m n.j n.bd n.m.a n.m.b n.m.c n.m.d n.r n.t s.k s.p s.x (uvs g) (ofNat g.length) (ofNat i) v.nm (pvs v.qw) v.cap.a v.cap.b v.cap.c v.cap.d v.up (uvs v.us)=some (stE (runM n v s (g.drop i))):=by
 have E:=C.wT;intro m
 induction m with
 |zero=>intro i _ _ h;omega
 |succ m D=>
  intro i s F G;refine zf ?_
  rw[zTJ];refine Wd (λf=>zEG f (zSp (zQd _ (C.j _ (QR f)) _) (qk_i (zcb n v h _) ?_))) λz=>Wb ?_
  .have u:∀b:Bool,b=bet n v s g[i]->Wp (zGI m n.j n.bd n.m.a n.m.b n.m.c n.m.d n.r n.t s.k s.p s.x (nmT g[i].j g[i].i) (zCO n v (nmT g[i].j g[i].i)) (uvs g) (ofNat g.length) (ofNat i) b v.nm (pvs v.qw) v.cap.a v.cap.b v.cap.c v.cap.d v.up (uvs v.us) g[i].j g[i].i g[i].bd g[i].m.a g[i].m.b g[i].m.c g[i].m.d g[i].t g[i].g) λx=>x=stE (runM n v s (g.drop i)):=λb B=>by
    rw[zU8,zd (by omega),QO f]
    show Wp _ λx=>x=stE (runM n v (zSA n v s g[i]) (g.drop (i+1)))
    have:=D (i+1) (zSA n v s g[i]) f (by omega)
    refine Wa (λe=>?_) λe=>?_
    .rw[zZO (B▸e)]at this⊢;exact⟨_,this,rfl⟩
    .rw[zZP (B▸e)]at this⊢;exact⟨_,this,rfl⟩
   have y:bet n v s g[i]=(decide (zCO n v (nmT g[i].j g[i].i) > s.k)||(zCO n v (nmT g[i].j g[i].i)==s.k&&(decide (zCO n v (nmT g[i].j g[i].i) > 0)&&decide (g[i].i<s.x)))):=rfl;refine Wa (λq=>u _ ?_) λq=>Wa (λw=>Wa (λA=>u _ ?_) λA=>u _ ?_) λw=>u _ ?_
   .rw[y,q];rfl
   .rw[y,q,w,A];rfl
   .rw[y,q,w,A];rfl
   .rw[y,q,w];rfl
  .rw[QW z];rfl
def enr(s:JV)(u:Ut):Bool:=u.g&&eqS u.j s
theorem zgS(n:Nx)(F:n.Ok)(J:NP n)(v:Vw)(h:v.Ok)(L:VR' v):∀(m i:Nat)(s:St),i<=v.us.length->v.us.length-i<m->zC2 m s.k s.p s.x (ofNat i) n.j n.bd n.m.a n.m.b n.m.c n.m.d n.r n.t v.nm (pvs v.qw) v.cap.a v.cap.b v.cap.c v.cap.d v.up (uvs v.us)=some (stE (runM n v s ((v.us.drop i).filter (enr n.t)))):=by
 have M:=h.us.wT;intro m
 induction m with
 |zero=>intro i _ _ h;omega
 |succ m K=>
  intro i s O Q;refine zf ?_
  rw[zLk,QG];refine Wd (λq=>zEG q ?_) λE=>Wb ?_
  .have f:=QR q;have I:v.us.drop i=v.us[i]::v.us.drop (i+1):=QO q;have B:∀y:St,y=(if enr n.t v.us[i]=true then zSA n v s v.us[i]else s)->Wp (zA3 m y.k y.p y.x (ofNat i) n.j n.bd n.m.a n.m.b n.m.c n.m.d n.r n.t v.nm (pvs v.qw) v.cap.a v.cap.b v.cap.c v.cap.d v.up (uvs v.us)) λx=>x=stE (runM n v s ((v.us.drop i).filter (enr n.t))):=λy hs=>by
    rw[zLO,zd (by omega),I]
    refine⟨_,K (i+1) y q (by omega),?_⟩
    by_cases z:enr n.t v.us[i]=true
    .rw[if_pos z]at hs;rw[List.filter_cons_of_pos z,hs];rfl
    .rw[if_neg z]at hs;rw[List.filter_cons_of_neg z,hs]
   have er:enr n.t v.us[i]=(v.us[i].g&&eqS v.us[i].j n.t):=rfl;rw[zAY];refine Wa (λu=>B s ?_) λu=>Wa (λw=>B s ?_) λw=>?_
   .rw[er,show v.us[i].g=false by simpa using u];rfl
   .rw[er,show eqS v.us[i].j n.t=false by simpa using w,Bool.and_false];rfl
   .have A:v.us[i].g=true:=by simpa using u
    have z:enr n.t v.us[i]=true:=by rw[er,A,show eqS v.us[i].j n.t=true by simpa using w];rfl
    rw[if_pos z]at B;have C:∀b:Bool,b=bet n v s v.us[i]->Wp (zA4 m s.k s.p s.x (ofNat i) (zCO n v (nmT v.us[i].j v.us[i].i)) b n.j n.bd n.m.a n.m.b n.m.c n.m.d n.r n.t v.nm (pvs v.qw) v.cap.a v.cap.b v.cap.c v.cap.d v.up (uvs v.us) v.us[i].j v.us[i].i v.us[i].bd v.us[i].m.a v.us[i].m.b v.us[i].m.c v.us[i].m.d v.us[i].t v.us[i].g) λx=>x=stE (runM n v s ((v.us.drop i).filter (enr n.t))):=λb H=>by
     rw[zLP];refine Wa (λe=>zBV (zRJ _ (h.us.j _ f) _) (B ⟨zCO n v (nmT v.us[i].j v.us[i].i),nmT v.us[i].j v.us[i].i,v.us[i].i⟩ (zZO (H▸e)).symm)) λe=>B s (zZP (H▸e)).symm
    have D:bet n v s v.us[i]=(decide (zCO n v (nmT v.us[i].j v.us[i].i) > s.k)||(zCO n v (nmT v.us[i].j v.us[i].i)==s.k&&(decide (zCO n v (nmT v.us[i].j v.us[i].i) > 0)&&decide (v.us[i].i<s.x)))):=rfl;rw[zLQ];refine zBV (zRJ _ (h.us.j _ f) _) (qk_i (zZN n F J v h L _ (.inr ⟨_,f,A,rfl⟩)) ?_)
    refine Wa (λu=>C _ ?_) λu=>Wa (λw=>Wa (λG=>C _ ?_) λG=>C _ ?_) λw=>C _ ?_
    .rw[D,u];rfl
    .rw[D,u,w,G];rfl
    .rw[D,u,w,G];rfl
    .rw[D,u,w];rfl
  .rw[QW E];rfl
theorem zgT{v:Vw}(h:Fine v)(s:JV):v.us.filter (enf s)=v.us.filter (enr s):=List.filter_congr λu b=>by
 obtain⟨_,a,_⟩:=zFa (h.us u b);unfold enf enr;cases hg:u.g with
 |false=>rfl
 |true=>rw[show eqS u.t []=true from QM (a hg)];rfl
theorem zdp(n:Nx)(g:n.Ok)(v:Vw)(h:v.Ok):∃(k:Int) (s:JV) (e:Int),zRO n.j n.bd n.m.a n.m.b n.m.c n.m.d n.r n.t v.nm (pvs v.qw) v.cap.a v.cap.b v.cap.c v.cap.d v.up (uvs v.us)=some (.qc [.int .i64 k,.str s,.int .i64 e])/\zGm n.j n.bd n.m.a n.m.b n.m.c n.m.d n.r n.t v.nm (pvs v.qw) v.cap.a v.cap.b v.cap.c v.cap.d v.up (uvs v.us)=some (.qc [.int .i64 k,.str s,.int .i64 e])/\(e=0/\NP n/\VP v\/e=2/\¬(NP n/\VP v)):=by
 have E:=zQN n g;have F:=zOY n g;by_cases f:NP n
 .have M:=zMA v h;have J:=zL6 v h;by_cases z:VP v
  .have G:=(zUU v).1 z;obtain⟨B,t,K,I,L⟩:=f.1.fl g;have C:=f.1.r;have c0:=zL7 E f;have c1:=zL7 F f;have Q:zKI n.r (pvs v.qw)=some (.qc [.bool (zAh v.qw t),.int .i64 0]):=by
    rw[K]at C⊢;exact zWC h.qw z.1.qw I L C
   have T:zDw n.r (pvs v.qw)=some (.qc [.bool (zAh v.qw t),.int .i64 0]):=by
    rw[K]at B⊢;exact zaA h.qw z.1.qw I L B
   have O:=zb7 v.us h.us n.j n.bd n.m.a n.m.b n.m.c n.m.d n.r n.t;have H:Uok (v.us.filter (enf n.t)):=⟨λu S=>h.us.j u (List.mem_filter.1 S).1,Qj (List.length_filter_le _ _) h.us.wT⟩
   have U:=h.us.wT;have R:=H.wT;refine⟨if v.up=true then(if zAh v.qw t=true then(if n.t=[]then zCO n v []else(runM n v ⟨0,[],0⟩ (v.us.filter (enf n.t))).k)else 0)else 0,if v.up=true then(if zAh v.qw t=true then(if n.t=[]then[]else(runM n v ⟨0,[],0⟩ (v.us.filter (enf n.t))).p)else[])else[],0,?_,?_,.inl ⟨rfl,f,z⟩⟩
   .refine zf ?_
    rw[zOd];refine qk_i c0 (Wf rfl<|qk_i (zL7 M z) (Wf rfl<|zZq Q (Wa (λe=>Wb ?_) λy=>Wa (λe=>Wb ?_) λA=>?_)))
    .rw[show v.up=false by simpa using e];rfl
    .rw[show v.up=true by simpa using y,show zAh v.qw t=false by simpa using e];rfl
    .have A:zAh v.qw t=true:=by simpa using A
     have y:v.up=true:=by simpa using y
     rw[zVa,zY,A,if_pos y,if_pos rfl,if_pos y,if_pos rfl];refine Wc (λw=>qk_i (zcb n v h []) (Wb ?_)) λw=>zUG O ?_
     .rw[if_pos w,if_pos w];rfl
     .rw[if_neg w,if_neg w,QG];exact⟨_,zff n v h _ H ze 0 ⟨0,[],0⟩ (QI _) (zk (by omega)),rfl⟩
   .refine zf ?_
    rw[zEU];refine qk_i c1 (Wf rfl<|qk_i (zL7 J G) (Wf rfl<|?_))
    rw[zLS];refine zZq T (Wa (λe=>Wb ?_) λy=>Wa (λe=>Wb ?_) λA=>?_)
    .rw[show v.up=false by simpa using e];rfl
    .rw[show v.up=true by simpa using y,show zAh v.qw t=false by simpa using e];rfl
    .have A:zAh v.qw t=true:=by simpa using A
     have y:v.up=true:=by simpa using y
     rw[zLR,zY,A,if_pos y,if_pos rfl,if_pos y,if_pos rfl];refine Wc (λw=>qk_i (zZN n g f v h G [] (.inl rfl)) (Wb ?_)) λw=>?_
     .rw[if_pos w,if_pos w];rfl
     .rw[if_neg w,if_neg w,zgT z.1];exact⟨_,zgS n g f v h G ze 0 ⟨0,[],0⟩ (QI _) (zk (by omega)),rfl⟩
  .obtain⟨_,e,c,rfl,⟨rfl,q⟩|⟨rfl,_⟩⟩:=M
   .exact absurd q z
   obtain⟨_,D,c,rfl,⟨rfl,q⟩|⟨rfl,_⟩⟩:=J
   .exact absurd ((zUU v).2 q) z
   refine⟨0,[],2,?_,?_,.inr ⟨rfl,λq=>z q.2⟩⟩
   .refine zf ?_
    rw[zOd];exact qk_i (zL7 E f) (Wf rfl<|qk_i e (Wt rfl (Wb rfl)))
   .refine zf ?_
    rw[zEU];exact qk_i (zL7 F f) (Wf rfl<|qk_i D (Wt rfl (Wb rfl)))
 .obtain⟨_,e,c,rfl,⟨rfl,q⟩|⟨rfl,_⟩⟩:=E
  .exact absurd q f
  obtain⟨_,D,c,rfl,⟨rfl,q⟩|⟨rfl,_⟩⟩:=F
  .exact absurd q f
  refine⟨0,[],2,?_,?_,.inr ⟨rfl,λq=>f q.1⟩⟩
  .refine zf ?_
   rw[zOd];exact qk_i e (Wt rfl (Wb rfl))
  .refine zf ?_
   rw[zEU];exact qk_i D (Wt rfl (Wb rfl))
def xq(c f l:Int):Int:=Int.tdiv ((if f-l > 0 then f-l else 0)*1000) c
theorem zaB{c f l:Int}(a:0<c)(hc:c<=1099511627776)(f0:0<=f)(f1:f<=c)(l0:0<=l)(d:l<=1099511627776):wrapx .i64 (Int.tdiv (wrapx .i64 ((if wrapx .i64 (f-l) > 0 then wrapx .i64 (f-l)else 0)*1000)) c)=xq c f l/\0<=xq c f l/\xq c f l<=1000:=by
 rw[zm (n:=f-l) (by omega) (by omega)]
 have g:0<=(if f-l > 0 then f-l else 0)/\(if f-l > 0 then f-l else 0)<=c:=by split<;>omega
 unfold xq;generalize(if f-l > 0 then f-l else 0)=y at *
 rw[zm (n:=y*1000) (by omega) (by omega)]
 have e:Int.tdiv (y*1000) c=y*1000 / c:=Int.tdiv_eq_ediv_of_nonneg (by omega)
 rw[e];have h1:0<=y*1000 / c:=Int.ediv_nonneg (by omega) (by omega)
 have b:y*1000 / c<=1000:=Int.ediv_le_of_le_mul a (by omega)
 exact⟨zm (by omega) (by omega),h1,b⟩
def tq(c f l:Int):Int:=if 0<c then xq c f l else 0
theorem zNn{c f l:Int}(hc:c<=1099511627776)(f0:0<=f)(f1:f<=c)(l0:0<=l)(a:l<=1099511627776):0<=tq c f l/\tq c f l<=1000:=by
 unfold tq;split
 .exact(zaB (by assumption) hc f0 f1 l0 a).2
 .omega
theorem zUV{c f l:Int}(hc:c<=1099511627776)(f0:0<=f)(f1:f<=c)(l0:0<=l)(a:l<=1099511627776):∃X:Int,wrapx .i64 (Int.tdiv (wrapx .i64 ((if wrapx .i64 (f-l) > 0 then wrapx .i64 (f-l)else 0)*1000)) c)=X/\(0<c->X=tq c f l)/\(¬0<c->tq c f l=0)/\0<=tq c f l/\tq c f l<=1000:=
 ⟨_,rfl,λh=>(zaB h hc f0 f1 l0 a).1.trans (if_pos h).symm,λh=>if_neg h,zNn hc f0 f1 l0 a⟩
def zWZ(s:JV)(u:Ut):Bool:=!u.g&&eqS u.j s
def cntU(s:JV)(us:List Ut):Nat:=(us.filter (zWZ s)).length
theorem zWt(s:JV)(u:Ut)(us:List Ut):(cntU s (u::us):Int)=(if zWZ s u=true then 1 else 0)+(cntU s us:Int):=by
 unfold cntU;rw[List.filter_cons];split
 .rw[QL];omega
 .omega
def zOk(k z:Int)(c:Nat):Int:=z-300*(c:Int)-if k=1 then 4000 else 0
theorem zcd(n:Nx)(k:Int)(us:List Ut)(y:us.length<=30):∀(m i:Nat)(z:Int),i<=us.length->us.length-i<m->z<=14000->-20000+300*(i:Int)<=z+600*(i:Int)->zDI m k z (uvs us) (ofNat us.length) (ofNat i) n.j n.bd n.m.a n.m.b n.m.c n.m.d n.r n.t=some (.int .i64 (zOk k z (cntU n.j (us.drop i)))):=by
 intro m
 induction m with
 |zero=>intro i _ _ h;omega
 |succ m q=>
  intro i z B C A w;refine zf ?_
  rw[zQn];refine Wd (λe=>zEG e ?_) λp=>?_
  .have u:us.drop i=us[i]::us.drop (i+1):=QO e;have hc:=zWt n.j us[i] (us.drop (i+1));rw[←u]at hc;have es:zWZ n.j us[i]=(!us[i].g&&eqS us[i].j n.j):=rfl;rw[es]at hc;rw[zd (by omega),zm (n:=z-300) (by omega) (by omega),zAY]
   refine Wa (λf=>Wa (λhs=>?_) λhs=>?_) λf=>?_
   .rw[f,hs]at hc;refine⟨_,q (i+1) (z-300) e (by omega) (by omega) (by omega),?_⟩
    unfold zOk;rw[hc];simp only[Bool.and_self,if_true];congr 1;omega
   .rw[f,hs]at hc;refine⟨_,q (i+1) z e (by omega) (by omega) (by omega),?_⟩
    unfold zOk;rw[hc];simp only[Bool.and_false,Bool.false_eq_true,if_false];congr 1;omega
   .rw[f]at hc;refine⟨_,q (i+1) z e (by omega) (by omega) (by omega),?_⟩
    unfold zOk;rw[hc];simp only[Bool.false_and,Bool.false_eq_true,if_false];congr 1;omega
  .rw[QW p,zm (by omega) (by omega)]
   have v:((cntU n.j []:Nat):Int)=0:=rfl;unfold zOk;rw[v];refine Wa (λhk=>Wb ?_) λhk=>Wb ?_
   .rw[if_pos (show k=1 by simpa using hk)];congr 1;omega
   .rw[if_neg (show ¬k=1 by simpa using hk)];congr 1;omega
theorem zgU(n:Nx)(v:Vw)(k:Int)(A:v.us.length<=30):∀(m i:Nat)(z:Int),i<=v.us.length->v.us.length-i<m->z<=14000->-20000+300*(i:Int)<=z+600*(i:Int)->zCo m n.j n.bd n.m.a n.m.b n.m.c n.m.d n.r n.t v.nm (pvs v.qw) v.cap.a v.cap.b v.cap.c v.cap.d v.up (uvs v.us) k z (ofNat i)=some (.qc [.int .i64 (zOk k z (cntU n.j (v.us.drop i))),.int .i64 0]):=by
 intro m
 induction m with
 |zero=>intro i _ _ h;omega
 |succ m q=>
  intro i z C D B y;refine zf ?_
  rw[zKh,QG];refine Wd (λe=>zEG e ?_) λp=>?_
  .have u:v.us.drop i=v.us[i]::v.us.drop (i+1):=QO e;have hc:=zWt n.j v.us[i] (v.us.drop (i+1));rw[←u]at hc;have es:zWZ n.j v.us[i]=(!v.us[i].g&&eqS v.us[i].j n.j):=rfl;rw[es]at hc;refine Wa (λf=>zEG e ?_) λf=>?_
   .rw[zAY];refine Wa (λhs=>?_) λhs=>?_
    .rw[f,hs]at hc;rw[zDC,zd (by omega),zm (n:=z-300) (by omega) (by omega)]
     refine⟨_,q (i+1) (z-300) e (by omega) (by omega) (by omega),?_⟩
     unfold zOk;rw[hc];simp only[Bool.and_self,if_true];congr 3;omega
    .rw[f,hs]at hc;rw[zDC,zd (by omega)]
     refine⟨_,q (i+1) z e (by omega) (by omega) (by omega),?_⟩
     unfold zOk;rw[hc];simp only[Bool.and_false,Bool.false_eq_true,if_false];congr 3;omega
   .rw[f]at hc;rw[zDC,zd (by omega)]
    refine⟨_,q (i+1) z e (by omega) (by omega) (by omega),?_⟩
    unfold zOk;rw[hc];simp only[Bool.false_and,Bool.false_eq_true,if_false];congr 3;omega
  .rw[QW p,zm (by omega) (by omega)]
   have w:((cntU n.j []:Nat):Int)=0:=rfl;unfold zOk;rw[w];refine Wa (λhk=>Wb ?_) λhk=>Wb ?_
   .rw[if_pos (show k=1 by simpa using hk),Int.mul_zero,Int.sub_zero];rfl
   .rw[if_neg (show ¬k=1 by simpa using hk),Int.mul_zero,Int.sub_zero,Int.sub_zero];rfl
def zYz(n:Nx)(v:Vw)(r:Am)(k:Int):Int:=zOk k (14000-(tq v.cap.a r.a n.m.a+tq v.cap.b r.b n.m.b+tq v.cap.c r.c n.m.c+tq v.cap.d r.d n.m.d)) (cntU n.j v.us)
set_option maxHeartbeats 4000000 in
theorem zYZ(n:Nx)(v:Vw)(h:v.Ok)(k:Int)(r:Am)(C:zNp v.nm (pvs v.qw) v.cap.a v.cap.b v.cap.c v.cap.d v.up (uvs v.us) []=some (.qc [am r.a r.b r.c r.d,.int .i64 0]))(hc:v.cap.ok)(e:n.m.ok)(f:r.nn)(h1:r.le v.cap):zMG n.j n.bd n.m.a n.m.b n.m.c n.m.d n.r n.t v.nm (pvs v.qw) v.cap.a v.cap.b v.cap.c v.cap.d v.up (uvs v.us) k=some (.int .i64 (zYz n v r k)):=by
 have w:=h.us.wT;refine zf ?_
 rw[zTK];refine zNV C ?_
 unfold Am.ok okA at hc e;unfold Am.nn at f;unfold Am.le zFp at h1;obtain⟨T,D,t1,K,v1,F⟩:=zUV (l:=n.m.a) hc.1.2 f.1 h1.1 e.1.1 e.1.2;obtain⟨U,B,t2,I,v2,S⟩:=zUV (l:=n.m.b) hc.2.1.2 f.2.1 h1.2.1 e.2.1.1 e.2.1.2;obtain⟨M,x3,t3,L,v3,H⟩:=zUV (l:=n.m.c) hc.2.2.1.2 f.2.2.1 h1.2.2.1 e.2.2.1.1 e.2.2.1.2;obtain⟨O,x4,t4,J,v4,E⟩:=zUV (l:=n.m.d) hc.2.2.2.2 f.2.2.2 h1.2.2.2 e.2.2.2.1 e.2.2.2.2;rw[D,B,x3,x4];have g:∀z:Int,z=14000-(tq v.cap.a r.a n.m.a+tq v.cap.b r.b n.m.b+tq v.cap.c r.c n.m.c+tq v.cap.d r.d n.m.d)->Wp (zD k z n.j n.bd n.m.a n.m.b n.m.c n.m.d n.r n.t v.nm (pvs v.qw) v.cap.a v.cap.b v.cap.c v.cap.d v.up (uvs v.us)) λx=>x=.int .i64 (zYz n v r k):=λz y=>by
  have G:=zNn hc.1.2 f.1 h1.1 e.1.1 e.1.2;have Q:=zNn hc.2.1.2 f.2.1 h1.2.1 e.2.1.1 e.2.1.2;have b3:=zNn hc.2.2.1.2 f.2.2.1 h1.2.2.1 e.2.2.1.1 e.2.2.1.2;have R:=zNn hc.2.2.2.2 f.2.2.2 h1.2.2.2 e.2.2.2.1 e.2.2.2.2;rw[zQY,QG];refine⟨_,zcd n k v.us w ze 0 z (QI _) (zk (by omega)) (by omega) (by omega),?_⟩
  rw[List.drop_zero,y];rfl
 refine Wc (λA=>We (by omega) ?_) (λA=>?_)<;>refine Wc (λu=>We (by omega) ?_) (λu=>?_)<;>refine Wc (λp=>We (by omega) ?_) (λp=>?_)<;>refine Wc (λq=>We (by omega) ?_) (λq=>?_)<;>refine g _ ?_<;>(try simp(disch:=omega) only[zm,qJ])<;>omega
theorem zQf{n:Nx}{v:Vw}{k out:Int}{R L C:JE}{m i:Nat}{c f l:Int}(u:R[i]?=some (.int .i64 f))(p:L[i]?=some (.int .i64 l))(h:C[i]?=some (.int .i64 c))(y:i<4)(c0:0<=c)(hc:c<=1099511627776)(f0:0<=f)(f1:f<=c)(l0:0<=l)(q:l<=1099511627776)(A:0<=out)(z:out<=20000):zT (m+1) n.j n.bd n.m.a n.m.b n.m.c n.m.d n.r n.t v.nm (pvs v.qw) v.cap.a v.cap.b v.cap.c v.cap.d v.up (uvs v.us) k out R L C (ofNat i)=zT m n.j n.bd n.m.a n.m.b n.m.c n.m.d n.r n.t v.nm (pvs v.qw) v.cap.a v.cap.b v.cap.c v.cap.d v.up (uvs v.us) k (out+1000-tq c f l) R L C (ofNat (i+1)):=by
 rw[zFF,zJ5,zJ5,zJ5,u,p,h,zd (by omega),QM (show ofNat i<4 by rw[qJ];omega),zm (n:=out+1000) (by omega) (by omega)]
 show br (decide (c > 0)) (gd (decide (c≠0)) (zT m n.j n.bd n.m.a n.m.b n.m.c n.m.d n.r n.t v.nm (pvs v.qw) v.cap.a v.cap.b v.cap.c v.cap.d v.up (uvs v.us) k (wrapx .i64 (out+1000-wrapx .i64 (Int.tdiv (wrapx .i64 (1000*if wrapx .i64 (f-l) > 0 then wrapx .i64 (f-l)else 0)) c))) R L C (ofNat (i+1)))) (zT m n.j n.bd n.m.a n.m.b n.m.c n.m.d n.r n.t v.nm (pvs v.qw) v.cap.a v.cap.b v.cap.c v.cap.d v.up (uvs v.us) k (out+1000) R L C (ofNat (i+1)))=_
 unfold tq;by_cases g:0<c
 .obtain⟨e,w,B⟩:=zaB g hc f0 f1 l0 q;rw[Int.mul_comm 1000,e,zm (by omega) (by omega),QM (show c > 0 from g),QM (show c≠0 by omega),if_pos g];rfl
 .rw[QJ (show ¬c > 0 from g),if_neg g,Int.sub_zero];rfl
theorem four(x:Am):zE x.a x.b x.c x.d=some (AV.sym 0,[],[(0,.vec 1 [.int .i64 x.a,.int .i64 x.b,.int .i64 x.c,.int .i64 x.d])]):=z4 ..
theorem zfg(n:Nx)(v:Vw)(h:v.Ok)(k:Int)(r:Am)(hc:v.cap.ok)(e:n.m.ok)(g:r.nn)(h1:r.le v.cap):zEe n.j n.bd n.m.a n.m.b n.m.c n.m.d n.r n.t v.nm (pvs v.qw) v.cap.a v.cap.b v.cap.c v.cap.d v.up (uvs v.us) k (ofNat 10000) [.int .i64 r.a,.int .i64 r.b,.int .i64 r.c,.int .i64 r.d] [.int .i64 n.m.a,.int .i64 n.m.b,.int .i64 n.m.c,.int .i64 n.m.d] [.int .i64 v.cap.a,.int .i64 v.cap.b,.int .i64 v.cap.c,.int .i64 v.cap.d]=some (.qc [.int .i64 (zYz n v r k),.int .i64 0]):=by
 have p:=h.us.wT;unfold Am.ok okA at hc e;unfold Am.nn at g;unfold Am.le zFp at h1;have q:=zNn hc.1.2 g.1 h1.1 e.1.1 e.1.2;have w:=zNn hc.2.1.2 g.2.1 h1.2.1 e.2.1.1 e.2.1.2;have b3:=zNn hc.2.2.1.2 g.2.2.1 h1.2.2.1 e.2.2.1.1 e.2.2.1.2;have u:=zNn hc.2.2.2.2 g.2.2.2 h1.2.2.2 e.2.2.2.1 e.2.2.2.2;rw[zK1,show ze=1180591620717411303419+1+1+1+1+1 from zE3,show ofNat 10000=10000 from rfl]
 rw[zQf (f:=r.a) (l:=n.m.a) (c:=v.cap.a) rfl rfl rfl (by omega) hc.1.1 hc.1.2 g.1 h1.1 e.1.1 e.1.2 (by omega) (by omega)]
 rw[zQf (f:=r.b) (l:=n.m.b) (c:=v.cap.b) rfl rfl rfl (by omega) hc.2.1.1 hc.2.1.2 g.2.1 h1.2.1 e.2.1.1 e.2.1.2 (by omega) (by omega)]
 rw[zQf (f:=r.c) (l:=n.m.c) (c:=v.cap.c) rfl rfl rfl (by omega) hc.2.2.1.1 hc.2.2.1.2 g.2.2.1 h1.2.2.1 e.2.2.1.1 e.2.2.1.2 (by omega) (by omega)]
 rw[zQf (f:=r.d) (l:=n.m.d) (c:=v.cap.d) rfl rfl rfl (by omega) hc.2.2.2.1 hc.2.2.2.2 g.2.2.2 h1.2.2.2 e.2.2.2.1 e.2.2.2.2 (by omega) (by omega)]
 rw[zFF,QJ (show ¬ofNat (0+1+1+1+1)<4 by decide),zAP,zgU n v k p ze 0 _ (QI _) (zk (by omega)) (by omega) (by omega),List.drop_zero]
 congr 3;unfold zYz;congr 2;omega
theorem zdq(n:Nx)(D:n.Ok)(v:Vw)(h:v.Ok):∃z e:Int,zFT n.j n.bd n.m.a n.m.b n.m.c n.m.d n.r n.t v.nm (pvs v.qw) v.cap.a v.cap.b v.cap.c v.cap.d v.up (uvs v.us)=some (.qc [.int .i64 z,.int .i64 e])/\zBh n.j n.bd n.m.a n.m.b n.m.c n.m.d n.r n.t v.nm (pvs v.qw) v.cap.a v.cap.b v.cap.c v.cap.d v.up (uvs v.us)=some (.qc [.int .i64 z,.int .i64 e]):=by
 obtain⟨k,s,e,h1,E,R⟩:=zdp n D v h;by_cases g:e=0
 .subst g;obtain⟨M,A⟩:NP n/\VP v:=by
   rcases R with⟨_,q⟩|⟨q,_⟩
   .exact q
   .cases q
  by_cases hk:k=0
  .subst hk;refine⟨0,14,zf ?_,zf ?_⟩
   .rw[zJM];exact zLz h1 (Wf rfl<|Wt rfl (Wb rfl))
   .rw[zEj];exact zLz E (Wf rfl<|Wt rfl (Wb rfl))
  .have G:=(zUU v).1 A;obtain⟨w,O,C,K,_⟩:=zTy G (.inl rfl);have L:=zZM G C K;have F:w=v.cap:=by unfold whole at C;rw[if_pos rfl]at C;cases C;rfl
   subst F;have T:=zZK (zUT (λu Q=>(zFa (A.1.us u Q)).2.2) [])
   have U:=K.2;obtain⟨r,y⟩:∃r:Am,r=(zIJ v.cap v.us []).1:=⟨_,rfl⟩;have f:r=v.cap.sub (zDc (inL v.us [])):=by rw[y,L]
   have J:r.nn:=by
    rw[f];unfold Am.nn Am.le zFp Am.sub at *;simp only;omega
   have H:r.le v.cap:=by
    rw[f];unfold Am.nn Am.le zFp Am.sub at *;simp only;omega
   have S:zNp v.nm (pvs v.qw) v.cap.a v.cap.b v.cap.c v.cap.d v.up (uvs v.us) []=some (.qc [am r.a r.b r.c r.d,.int .i64 0]):=by
    refine zf ?_
    rw[zWG];refine qk_i (zL7 (zMA v h) A) (Wf rfl<|zVO (zTx v.us h.us [] v.nm _ v.cap v.up) ?_)
    rw[L];exact Wf rfl<|Wb (by rw[f];rfl)
   have B:=zcc v h G [] (.inl rfl);rw[←y]at B;have p:(k==0)=false:=by simpa using hk
   refine⟨zYz n v r k,0,zf ?_,zf ?_⟩
   .rw[zJM];refine zLz h1 (Wf rfl<|?_)
    rw[p];exact qk_i (zYZ n v h k r S A.1.cap M.1.m J H) (Wb rfl)
   .rw[zEj];refine zLz E (Wf rfl<|?_)
    rw[p];exact zR4 B (zG8 (four r) (zG8 (four n.m) (zG8 (four v.cap) ⟨_,zfg n v h k r A.1.cap M.1.m J H,rfl⟩)))
 .have I:(e != 0)=true:=by simpa using g
  refine⟨0,e,zf ?_,zf ?_⟩
  .rw[zJM];refine zLz h1 ?_
   rw[I];exact Wb rfl
  .rw[zEj];refine zLz E ?_
   rw[I];exact Wb rfl
noncomputable def c02(p:Prop)(c:Int):Int:=@ite Int p (Classical.propDecidable p) c 2
theorem zJ8{p:Prop}{c:Int}(h:p):c02 p c=c:=if_pos h
theorem zHG{p:Prop}{c:Int}(h:¬p):c02 p c=2:=if_neg h
theorem zUW{o:JF}{p:Prop}(h:Wp o (CkR p)):o=some (.int .i64 (c02 p 0)):=by
 obtain⟨_,e,c,rfl,⟨rfl,q⟩|⟨rfl,q⟩⟩:=h
 .rw[zJ8 q];exact e
 .rw[zHG q];exact e
theorem zdU{p:Prop}:(c02 p 0 != 0)=true↔¬p:=by
 by_cases h:p
 .rw[zJ8 h];simp[h]
 .rw[zHG h];simp[h]
theorem zdV{p:Prop}:(c02 p 0 != 0)=false↔p:=by
 by_cases h:p
 .rw[zJ8 h];simp[h]
 .rw[zHG h];simp[h]
noncomputable def sco(n:Nx)(v:Vw):Int×Int:=match zFT n.j n.bd n.m.a n.m.b n.m.c n.m.d n.r n.t v.nm (pvs v.qw) v.cap.a v.cap.b v.cap.c v.cap.d v.up (uvs v.us)with
 |some (.qc [.int _ z,.int _ e])=>(z,e)
 |_=>(0,0)
theorem zQg(n:Nx)(f:n.Ok){v:Vw}(h:v.Ok):zFT n.j n.bd n.m.a n.m.b n.m.c n.m.d n.r n.t v.nm (pvs v.qw) v.cap.a v.cap.b v.cap.c v.cap.d v.up (uvs v.us)=some (.qc [.int .i64 (sco n v).1,.int .i64 (sco n v).2])/\zBh n.j n.bd n.m.a n.m.b n.m.c n.m.d n.r n.t v.nm (pvs v.qw) v.cap.a v.cap.b v.cap.c v.cap.d v.up (uvs v.us)=some (.qc [.int .i64 (sco n v).1,.int .i64 (sco n v).2]):=by
 obtain⟨z,e,h1,g⟩:=zdq n f v h;have:sco n v=(z,e):=by unfold sco;rw[h1]
 rw[this];exact⟨h1,g⟩
noncomputable def rks(n:Nx):Nat->List Vw->List Rn
 |_,[]=>[]
 |i,v::r=>if(sco n v).2=0 then(ofNat i,(sco n v).1,v.nm.map UInt8.ofNat)::rks n (i+1) r else rks n (i+1) r
theorem zNo(n:Nx):∀(i:Nat)(x y:List Vw),rks n i (x++y)=rks n i x++rks n (i+x.length) y
 |i,[],y=>by simp[rks]
 |i,v::x,y=>by
  have:=zNo n (i+1) x y;simp only[List.cons_append,rks,QL];rw[this,show i+1+x.length=i+(x.length+1)from by omega]
  split<;>simp
abbrev views(l:List Vw):JE:=l.map Vw.av
theorem zGv{β:Type}{P:β->Prop}{wk:Bool}{l:List Vw}{i:Nat}(e:i<l.length){f:JV->JE->Int->Int->Int->Int->Bool->JE->Option β}(k:Wp (f l[i].nm ((pvs l[i].qw)) l[i].cap.a l[i].cap.b l[i].cap.c l[i].cap.d l[i].up ((uvs l[i].us))) P):
  Wp (dK wk yi (ixN (views l) (ofNat i)) f) P:=
 zOJ (zIF e) k
theorem zfh(i:Nat)(z:Int){nm:JV}(h:∀c∈nm,c<256):AV.agg [.int .i64 (ofNat i),.int .i64 z,.str nm]=zA9.el (ofNat i,z,nm.map UInt8.ofNat):=by
 show _=AV.agg [_,_,AV.str ((nm.map UInt8.ofNat).map UInt8.toNat)]
 rw[zOF (QD.2 λc hc=>by rw[Ql];exact h c hc)]
theorem zaC{d:List Rn}:zA9.vw (d.map zA9.el)=some d:=by
 induction d with
 |nil=>rfl
 |cons x d a=>
  have e:zA9.dec (zA9.av x)=some x:=by
   show zWW [.int .i64 x.1,.int .i64 x.2.1,.str (x.2.2.map UInt8.toNat)]=some x
   have h1:((x.2.2.map UInt8.toNat).all λn=>Nat.blt n 256)=true:=QD.2 λc hc=>by
    obtain⟨u,_,rfl⟩:=Qg.1 hc;rw[Ql];exact UInt8.toNat_lt u
   have b:(x.2.2.map UInt8.toNat).map UInt8.ofNat=x.2.2:=by
    rw[List.map_map];refine(List.map_congr_left λu _=>?_).trans (List.map_id _)
    simp
   simp only[zWW,h1,b]
  rw[Qe];show zA9.vw (.agg (zA9.av x)::d.map zA9.el)=_
  rw[Cod.vw,e];simp only;rw[a]
theorem zaD{d:List Rn}(f:zHQ ltN d=true)(b:d.length<4611686018427387904):zIj (d.map zA9.el)=some (.qc [],[],[(0,.vec 3 ((isort ltN d).map zA9.el))]):=by
 show zUy zA9 46 ltN [.sym 0,.func (.func 46) [] []] [] [(0,.vec 3 (d.map zA9.el))]=_
 have e:zUx zA9 ltN (d.map zA9.el)=some ((isort ltN d).map zA9.el):=by
  unfold zUx;rw[zaC];simp only[f,show Nat.blt d.length 4611686018427387904=true from by rw[Ql];exact b,QV]
 show(match zUx zA9 ltN (d.map zA9.el)with
  |some a=>some (AV.qc [],([]:Heap),[(0,VI.vec 3 a)])
  |none=>none)=_
 rw[e]
def zQA(a:List JV):List (AV×AV):=a.map λs=>(.str s,.bool true)
theorem zOZ(s:JV):∀a:List JV,zCt false [Kd.s] (.str s) (zQA a)=if s∈a then some (some (.bool true))else some none
 |[]=>rfl
 |t::a=>by
  have h:=zOZ s a;show(match some (zo s t)with
   |some true=>some (some (AV.bool true))
   |some false=>zCt false [Kd.s] (.str s) (zQA a)
   |none=>none)=_
  rw[zY];by_cases e:s=t
  .subst e;simp
  .simp only[e,decide_false,QH,false_or];exact h
theorem zU0(s:JV):∀a:List JV,s ∉ a->zGn false [Kd.s] (.str s) (.bool true) (zQA a)=some (zQA (a++[s]))
 |[],_=>rfl
 |t::a,g=>by
  have d:s ∉ a:=λh=>g (.tail _ h)
  have h:=zU0 s a d;show(match some (zo s t)with
   |some true=>some ((AV.str s,AV.bool true)::zQA a)
   |some false=>match zGn false [Kd.s] (.str s) (.bool true) (zQA a)with
    |some j=>some ((AV.str t,AV.bool true)::j)
    |none=>none
   |none=>none)=_
  rw[zY];have e:¬s=t:=λh=>g (h▸.head _)
  simp only[e,decide_false,h];rfl
def Pn(n:Nx)(l:List Vw):Prop:=NP n/\(∀v∈l,VP v)/\(l.map Vw.nm).Nodup
noncomputable def zGp(n:Nx)(l:List Vw):Int:=c02 (NP n/\∀v∈l,VP v) (if(l.map Vw.nm).Nodup then 0 else 7)
theorem zce{n:Nx}{l:List Vw}(h:¬NP n):zGp n l=2:=zHG λq=>h q.1
theorem zcf{n:Nx}{l:List Vw}{v:Vw}(hm:v∈l)(h:¬VP v):zGp n l=2:=zHG λq=>h (q.2 v hm)
theorem zcg{n:Nx}{l:List Vw}(h1:NP n)(a:∀v∈l,VP v)(h:¬(l.map Vw.nm).Nodup):zGp n l=7:=by
 unfold zGp;rw[zJ8 ⟨h1,a⟩,if_neg h]
theorem zch{n:Nx}{l:List Vw}(h:Pn n l):zGp n l=0:=by
 unfold zGp;rw[zJ8 ⟨h.1,h.2.1⟩,if_pos h.2.2]
theorem zSB{n:Nx}{l:List Vw}(h:¬Pn n l):zGp n l≠0:=by
 unfold zGp;by_cases q:NP n/\∀v∈l,VP v
 .rw[zJ8 q];rw[if_neg λd=>h ⟨q.1,q.2,d⟩]
  decide
 .rw[zHG q];decide
noncomputable def rk(n:Nx)(l:List Vw):List Rn:=isort ltN (rks n 0 l)
def RkR(n:Nx)(l:List Vw)(x:AV):Prop:=(Pn n l/\x=.qc [.qg 3 ((rk n l).map zA9.el),.int .i64 0])\/(¬Pn n l/\x=.qc [.qa,.int .i64 (zGp n l)])
theorem zVA{n:Nx}{l:List Vw}:∀{i:Nat}{x:Rn},x∈rks n i l->∃j v,l[j]?=some v/\x=(ofNat (i+j),(sco n v).1,v.nm.map UInt8.ofNat):=by
 induction l with
 |nil=>intro i x h;cases h
 |cons v r a=>
  intro i x h;have tl:∀{x},x∈rks n (i+1) r->∃j w,(v::r)[j]?=some w/\x=(ofNat (i+j),(sco n w).1,w.nm.map UInt8.ofNat):=λh=>by
   obtain⟨j,w,h1,b⟩:=a h;exact⟨j+1,w,by simpa using h1,by rw[b,show i+1+j=i+(j+1)from by omega]⟩
  unfold rks at h;split at h
  .rcases QH.1 h with rfl|h
   .exact⟨0,v,rfl,rfl⟩
   .exact tl h
  .exact tl h
theorem ofNat_inj{a b:JV}(d:∀c∈a,c<256)(f:∀c∈b,c<256)(h:a.map UInt8.ofNat=b.map UInt8.ofNat):a=b:=by
 have e:∀l:JV,(∀c∈l,c<256)->(l.map UInt8.ofNat).map UInt8.toNat=l:=λl h=>zOF (QD.2 λc hc=>by rw[Ql];exact h c hc)
 rw[←e a d,←e b f,h]
theorem zVB{n:Nx}:∀{l:List Vw}{i:Nat},(∀v∈l,∀c∈v.nm,c<256)->(l.map Vw.nm).Nodup->zHQ ltN (rks n i l)=true
 |[],i,_,_=>rfl
 |v::r,i,h,b=>by
  rw[Qe,Qz]at b;have d:=zVB (n:=n) (i:=i+1) (λw a=>h w (.tail _ a)) b.2
  unfold rks;split
  .simp only[zHQ,d,QV,QD,Bool.or_eq_true];intro x f;obtain⟨j,w,h1,rfl⟩:=zVA f;refine zZk λe=>?_
   have a:=QE h1;have:=ofNat_inj (h v (.head _)) (h w (.tail _ a)) e;exact b.1 (this▸List.mem_map_of_mem a)
  .exact d
theorem zSC{n:Nx}:∀{l:List Vw}{i:Nat},(rks n i l).length<=l.length
 |[],i=>QA _
 |v::r,i=>by
  have:=zSC (n:=n) (l:=r) (i:=i+1);unfold rks;split
  .simp only[QL];omega
  .simp only[QL];omega
theorem zci{n:Nx}(y:n.Ok){l:List Vw}(G:l.length<=30)(u:∀v∈l,v.Ok)(A:Pn n l):∀(f i:Nat),i<=l.length->l.length-i<f->Wp (zEJ f (views l) (ofNat l.length) (ofNat i) n.j n.bd n.m.a n.m.b n.m.c n.m.d n.r n.t ((rks n 0 (l.take i)).map zA9.el)) (RkR n l):=by
 intro f
 induction f with
 |zero=>intro i _ h;omega
 |succ f C=>
  intro i B H;rw[zQo];refine Wd (λe=>zGv e ?_) λD=>?_
  .have w:=u _ (QR e);have E:l.take (i+1)=l.take i++[l[i]]:=zBa e;have q:(l.take i).length=i:=by rw[Qh];omega
   have p:rks n 0 (l.take (i+1))=rks n 0 (l.take i)++rks n i [l[i]]:=by rw[E,zNo,q,QY]
   refine zPs (zQg n y w).1 (Wa (λg=>We (zFS (k:=32) (show((rks n 0 (l.take i)).map zA9.el).length+1<=_ by have:=zSC (n:=n) (l:=l.take i) (i:=0);rw[QG];omega) (by omega)) ?_) λg=>?_)
   .have g:(sco n l[i]).2=0:=by simpa using g
    rw[zd (by omega)]
    have:=C (i+1) e (by omega)
    rw[p,Qq]at this;have z:rks n i [l[i]]=[(ofNat i,(sco n l[i]).1,l[i].nm.map UInt8.ofNat)]:=by simp[rks,g]
    rw[z]at this;have F:=zfh i (sco n l[i]).1 w.nm;rw[List.map_singleton,←F]at this;exact this
   .have g:¬(sco n l[i]).2=0:=by simpa using g
    rw[zd (by omega)]
    have:=C (i+1) e (by omega)
    have z:rks n i [l[i]]=[]:=by simp[rks,g]
    rw[p,z,List.append_nil]at this;exact this
  .have B:i=l.length:=by omega
   subst B;rw[List.take_length];refine zc4 (zaD (zVB (λv w=>(u v w).nm) A.2.2) (by have:=zSC (n:=n) (l:=l) (i:=0);omega)) (Wb (.inl ⟨A,rfl⟩))
theorem zcj{n:Nx}(A:n.Ok){l:List Vw}(G:l.length<=30)(C:∀v∈l,v.Ok)(h1:NP n)(D:∀v∈l,VP v):∀(f i:Nat),i<=l.length->l.length-i<f->((l.take i).map Vw.nm).Nodup->Wp (zGx f (views l) (views l) (ofNat l.length) (ofNat i) n.j n.bd n.m.a n.m.b n.m.c n.m.d n.r n.t (zQA ((l.take i).map Vw.nm))) (RkR n l):=by
 intro f
 induction f with
 |zero=>intro i _ h;omega
 |succ f H=>
  intro i E I k;rw[zQp];refine Wd (λg=>zGv g ?_) λF=>?_
  .have B:(l.take (i+1)).map Vw.nm=(l.take i).map Vw.nm++[l[i].nm]:=by rw[zBa g,Qq];rfl
   by_cases y:l[i].nm∈(l.take i).map Vw.nm
   .have e:lkR false (AV.bool false) (zCt false [Kd.s] (AV.str l[i].nm) (zQA ((l.take i).map Vw.nm)))=some (.bool true):=by
     rw[zOZ,if_pos y];rfl
    have z:¬(l.map Vw.nm).Nodup:=λw=>by
     have:((l.take (i+1)).map Vw.nm).Nodup:=w.sublist ((List.take_sublist _ _).map _);rw[B]at this;exact(List.nodup_append.1 this).2.2 _ y _ (Qa.2 rfl) rfl
    refine qk_b e (Wb (.inr ⟨λq=>z q.2.2,?_⟩))
    rw[zcg h1 D z];rfl
   .have e:lkR false (AV.bool false) (zCt false [Kd.s] (AV.str l[i].nm) (zQA ((l.take i).map Vw.nm)))=some (.bool false):=by
     rw[zOZ,if_neg y];rfl
    refine qk_b e ?_
    rw[zAP,zU0 _ _ y,zXJ,zd (by omega),←B]
    refine H (i+1) g (by omega) ?_
    rw[B];exact zNl k y
  .have E:i=l.length:=by omega
   subst E;rw[List.take_length]at k;have:=zci A G C ⟨h1,D,k⟩ ze 0 (QI _) (zk (by omega))
   rw[show(views l).length=l.length from QG _]
   exact this
theorem zco{n:Nx}(u:n.Ok){l:List Vw}(C:l.length<=30)(p:∀v∈l,v.Ok)(h1:NP n):∀(f i:Nat),i<=l.length->l.length-i<f->(∀v∈l.take i,VP v)->Wp (zGy f (views l) (views l) (ofNat l.length) (ofNat i) n.j n.bd n.m.a n.m.b n.m.c n.m.d n.r n.t) (RkR n l):=by
 intro f
 induction f with
 |zero=>intro i _ h;omega
 |succ f D=>
  intro i A E w;rw[zQq];refine Wd (λe=>zGv e ?_) λB=>?_
  .have y:=QR e;refine qk_i (zUW (zMA _ (p _ y))) (Wa (λz=>?_) λz=>?_)
   .have k:=zdU.1 z;exact Wb (.inr ⟨λq=>k (q.2.1 _ y),by rw[zcf y k,zHG k]⟩)
   .have k:=zdV.1 z;rw[zd (by omega)]
    refine D (i+1) e (by omega) λv g=>?_
    rw[zBa e]at g;rcases QK.1 g with g|g
    .exact w v g
    .rw[Qa.1 g];exact k
  .have A:i=l.length:=by omega
   subst A;rw[List.take_length]at w;rw[show(views l).length=l.length from QG _]
   exact zcj u C p h1 w ze 0 (QI _) (zk (by omega)) .nil
theorem zS8{n:Nx}(e:n.Ok){l:List Vw}(p:l.length<=30)(f:∀v∈l,v.Ok):Wp (zJE n.j n.bd n.m.a n.m.b n.m.c n.m.d n.r n.t (views l)) (RkR n l):=by
 rw[zTL];refine qk_i (zUW (zQN n e)) (Wa (λg=>?_) λg=>?_)
 .have h:=zdU.1 g;exact Wb (.inr ⟨λq=>h q.1,by rw[zce h,zHG h]⟩)
 .rw[show(views l).length=l.length from QG _]
  exact zco e p f (zdV.1 g) ze 0 (QI _) (zk (by omega)) λv k=>by cases k
theorem zU1{n:Nx}{l:List Vw}:(rk n l).length<=l.length:=by
 unfold rk;rw[zD3.length_eq];exact zSC
def idx(x:Rn):AV:=.int .i64 x.1
section
variable{β:Type}{P:β->Prop}{n:Nx}{l:List Vw}
theorem RkR.use{o:JF}{f:JE->Int->Option β}(h:Wp o (RkR n l))(a:¬Pn n l->Wp (f [] (zGp n l)) P)(b:Pn n l->Wp (f ((rk n l).map zA9.el) 0) P):Wp (dK true [K.qc 2,K.l 3,K.i .i64] o f) P:=by
 obtain⟨v,rfl,⟨h,rfl⟩|⟨h,rfl⟩⟩:=h
 .exact b h
 .exact a h
theorem zTz{o:JF}{f:JE->Int->Option β}{e:Int}(h:o=some (.qc [.qa,.int .i64 e]))(k:Wp (f [] e) P):Wp (dK true yG o f) P:=by
 subst h;exact k
end
def zaE(e:Int):List Rn->AV
 |[]=>.qc [.int .i64 0,.int .i64 0,.int .i64 e]
 |x::_=>.qc [.int .i64 x.1,.int .i64 x.2.1,.int .i64 0]
def zdW(n:Nx)(l:List Vw)(x:AV):Prop:=(Pn n l/\x=zaE 14 (rk n l))\/(¬Pn n l/\x=zaE (zGp n l) [])
def zaF(n:Nx)(l:List Vw)(x:AV):Prop:=(Pn n l/\x=.qc [.qg 1 ((rk n l).map idx),.int .i64 0])\/(¬Pn n l/\x=.qc [.qa,.int .i64 (zGp n l)])
theorem zaG{n:Nx}(f:n.Ok){l:List Vw}(p:l.length<=30)(g:∀v∈l,v.Ok):Wp (zN3 n.j n.bd n.m.a n.m.b n.m.c n.m.d n.r n.t (views l)) (zdW n l):=by
 rw[zVb];refine RkR.use (zS8 f p g) (λe=>?_) λe=>?_
 .have:(zGp n l != 0)=true:=by simpa using zSB e
  rw[this,zJ4];exact Wb (.inr ⟨e,rfl⟩)
 .rw[show((0:Int) != 0)=false from rfl,zAP]
  cases hk:rk n l with
  |nil=>exact Wb (.inl ⟨e,by rw[hk];rfl⟩)
  |cons x r=>
   have k:(ofNat (List.map zA9.el (x::r)).length==0)=false:=by
    rw[Qe,QL];rfl
   rw[k,zAP];have h:ixN (List.map zA9.el (x::r)) 0=some (.agg [.int .i64 x.1,.int .i64 x.2.1,.str (x.2.2.map UInt8.toNat)]):=rfl;exact zTp h (zTp h (Wb (.inl ⟨e,by rw[hk];rfl⟩)))
theorem zaH(R:List Rn)(j:R.length<=30):∀(f i:Nat),i<=R.length->R.length-i<f->Wp (zF9 f (R.map zA9.el) (ofNat R.length) (ofNat i) ((R.take i).map idx)) λv=>v=.qc [.qg 1 (R.map idx),.int .i64 0]:=by
 intro f
 induction f with
 |zero=>intro i _ h;omega
 |succ f g=>
  intro i b p;rw[zPI];refine Wd (λa=>?_) λd=>?_
  .have e:ixN (R.map zA9.el) (ofNat i)=some (.agg [.int .i64 R[i].1,.int .i64 R[i].2.1,.str (R[i].2.2.map UInt8.toNat)]):=zIF a;refine zTp e (We (zFS (k:=8) (show((R.take i).map idx).length+1<=_ by rw[QG,Qh];omega) (by omega)) ?_)
   rw[zd (by omega)]
   have:=g (i+1) a (by omega)
   rw[zBa a,Qq]at this;exact this
  .have b:i=R.length:=by omega
   subst b;rw[List.take_length];exact Wb rfl
theorem zYi{n:Nx}(g:n.Ok){l:List Vw}(p:l.length<=30)(k:∀v∈l,v.Ok):Wp (zLE n.j n.bd n.m.a n.m.b n.m.c n.m.d n.r n.t (views l)) (zaF n l):=by
 rw[zSQ];refine RkR.use (zS8 g p k) (λf=>?_) λf=>?_
 .have:(zGp n l != 0)=true:=by simpa using zSB f
  rw[this,zJ4];exact Wb (.inr ⟨f,rfl⟩)
 .rw[show((0:Int) != 0)=false from rfl,zAP,show((rk n l).map zA9.el).length=(rk n l).length from QG _]
  have q:(rk n l).length<=30:=Qj zU1 p;obtain⟨v,e,h⟩:=zaH (rk n l) q ze 0 (QI _) (zk (by omega))
  exact⟨v,e,.inl ⟨f,h⟩⟩
theorem zfk(l:List Vw)(E:l.length<=2000000):zDy (views l)=some (.bool (!decide (l.map Vw.nm).Nodup)):=by
 have loop:∀(m i:Nat),i<=l.length->l.length-i<m->((l.take i).map Vw.nm).Nodup->Wp (zCp m (views l) (ofNat i)) λx=>x=.bool (!decide (l.map Vw.nm).Nodup):=by
  intro m
  induction m with
  |zero=>intro i _ h;omega
  |succ m C=>
   intro i F G g;rw[zKi,show(views l).length=l.length from QG _]
   refine Wd (λb=>?_) λp=>Wb ?_
   .have y:(l.take (i+1)).map Vw.nm=(l.take i).map Vw.nm++[l[i].nm]:=by rw[zBa b,Qq];rfl
    have inner:∀(f k:Nat),k<=i->i-k<f->(∀j (t:j<l.length),j<k->l[j].nm≠l[i].nm)->Wp (zCJ m f (views l) (ofNat i) (ofNat k)) λx=>x=.bool (!decide (l.map Vw.nm).Nodup):=by
     intro f
     induction f with
     |zero=>intro k _ h;omega
     |succ f w=>
      intro k hk D r;rw[zK2];refine Wd (λu=>zGv (i:=k) (by omega) (zGv b ?_)) λp=>?_
      .rw[zAY];refine Wa (λe=>Wb ?_) λe=>?_
       .have e:l[k].nm=l[i].nm:=QP e;rw[QJ]
        .rfl
        .intro q;have a:((l.take (i+1)).map Vw.nm).Nodup:=q.sublist ((List.take_sublist _ _).map _);rw[y]at a;have d:l[i].nm∈(l.take i).map Vw.nm:=Qg.2 ⟨l[k],by rw[List.mem_take_iff_getElem];exact⟨k,by omega,rfl⟩,e⟩
         exact(List.nodup_append.1 a).2.2 _ d _ (Qa.2 rfl) rfl
       .have e:¬l[k].nm=l[i].nm:=Qk e;rw[zd (by omega)]
        refine w (k+1) u (by omega) λj t B=>?_
        by_cases A:j<k
        .exact r j t A
        .have:j=k:=by omega
         subst this;exact e
      .rw[zd (by omega)]
       refine C (i+1) b (by omega) ?_
       rw[y];refine zNl g λd=>?_
       obtain⟨v,z,e⟩:=Qg.1 d;rw[List.mem_take_iff_getElem]at z;obtain⟨j,t,rfl⟩:=z;exact r j (by omega) (by omega) e
    exact inner ze 0 (QI _) (zk (by omega)) λj t h=>by omega
   .rw[List.take_of_length_le p]at g;rw[QM g];rfl
 refine zf ?_
 rw[zMx];exact loop ze 0 (QI _) (zk (by omega)) .nil
theorem zfl(n:Nx)(y:n.Ok)(l:List Vw)(C:l.length<=2000000)(A:∀v∈l,v.Ok):zFl n.j n.bd n.m.a n.m.b n.m.c n.m.d n.r n.t (views l)=some (.int .i64 (zGp n l)):=by
 have loop:∀(m i:Nat)(e:Int),i<=l.length->l.length-i<m->(e=0/\NP n/\(∀v∈l.take i,VP v)\/e=2/\zGp n l=2)->Wp (zCM m (views l) e (ofNat i)) λx=>x=.int .i64 (zGp n l):=by
  intro m
  induction m with
  |zero=>intro i _ _ h;omega
  |succ m D=>
   intro i e E p B;rw[zK5,show(views l).length=l.length from QG _]
   rcases B with⟨rfl,z,u⟩|⟨rfl,B⟩
   .refine Wd (λf=>?_) λw=>?_
    .rw[show((0:Int)==0)=true from rfl,zJ4,zK3]
     have k:=QR f;refine zGv f (qk_i (zUW (zL6 _ (A _ k))) ?_)
     rw[zd (by omega)]
     refine D (i+1) _ f (by omega) ?_
     by_cases g:VP l[i]
     .rw[zJ8 ((zUU _).1 g)];refine .inl ⟨rfl,z,λv p=>?_⟩
      rw[zBa f]at p;rcases QK.1 p with p|p
      .exact u v p
      .rw[Qa.1 p];exact g
     .rw[zHG λq=>g ((zUU _).2 q)]
      exact .inr ⟨rfl,zcf k g⟩
    .rw[List.take_of_length_le w]at u;rw[show((0:Int)==0)=true from rfl,zJ4]
     refine qk_b (zfk l C) (Wa (λe=>?_) λe=>?_)
     .rw[zDD,zcg z u (by simpa using e)]
      exact Wb rfl
     .rw[zDD,zch ⟨z,u,by simpa using e⟩]
      exact Wb rfl
   .rw[B];refine Wd (λf=>?_) λw=>?_
    .rw[show((2:Int)==0)=false from rfl,zAP,zAP,zK4]
     exact Wb rfl
    .rw[show((2:Int)==0)=false from rfl,zAP,zDD]
     exact Wb rfl
 refine zf ?_
 rw[zMy];refine qk_i (zUW (zOY n y)) (loop ze 0 _ (QI _) (zk (by omega)) ?_)
 by_cases g:NP n
 .rw[zJ8 g];exact .inl ⟨rfl,g,λv u=>by cases u⟩
 .rw[zHG g];exact .inr ⟨rfl,zce g⟩
theorem zZQ{x:Rn}:∀(D:List Rn)(k:Nat),k<=D.length->(∀j (d:j<D.length),j<k->ltN x D[j]=false)->(∀hk:k<D.length,ltN x D[k]=true)->zQy ltN x D=D.take k++[x]++D.drop k
 |[],k,hk,_,_=>by
  have:k=0:=Nat.le_zero.1 hk;subst this;rfl
 |y::D,0,_,_,a=>by
  have:=a (Qv _);simp only[List.getElem_cons_zero]at this;simp only[zQy,this];rfl
 |y::D,k+1,hk,h1,a=>by
  have e:=h1 0 (Qv _) (Qv _);simp only[List.getElem_cons_zero]at e;have f:=zZQ (x:=x) D k (Nat.le_of_succ_le_succ hk) (λj d b=>h1 (j+1) (Nat.succ_lt_succ d) (Nat.succ_lt_succ b)) λhk=>a (Nat.succ_lt_succ hk)
  simp only[zQy,e,f];rfl
theorem zgd{a b:JV}(d:∀c∈a,c<256)(f:∀c∈b,c<256):slt a b=Op.bytesLess (a.map UInt8.ofNat) (b.map UInt8.ofNat):=by
 have e:∀l:JV,(∀c∈l,c<256)->(l.map UInt8.ofNat).map UInt8.toNat=l:=λl h=>zOF (QD.2 λc hc=>by rw[Ql];exact h c hc)
 rw[←zVd,e a d,e b f]
def scV(x:Rn):AV:=.int .i64 x.2.1
theorem zhW{n:Nx}{P:AV->Prop}{m f i k:Nat}{g o s:JE}{z:Int}(ho:k<=o.length)(hs:k<=s.length)(h1:o.length<=30)(p:s.length<=30)(h:Wp (z5 m g (wrapx .i64 (ofNat i+1)) n.j n.bd n.m.a n.m.b n.m.c n.m.d n.r n.t (o.take k++[.int .i64 (ofNat i)]++o.drop k) (s.take k++[.int .i64 z]++s.drop k)) P):Wp (zAf m f g o s (ofNat i) z (ofNat k) false n.j n.bd n.m.a n.m.b n.m.c n.m.d n.r n.t) P:=by
 have e:∀(o:JE)(x:AV),[]++List.drop 0 (List.take k o)++[x]++List.drop k (List.take o.length o)=o.take k++[x]++o.drop k:=λo x=>by rw[List.nil_append,List.drop_zero,List.take_length]
 rw[zFG,zAP];rw[←e,←e]at h;exact We ⟨QU _,Qr.2 ho⟩ (We (zFS (k:=8) (by show 0+(List.drop 0 (List.take k o)).length<=_;rw[Qp,Qh];omega) (by omega)) (We (zFS (k:=8) (by show([]++List.drop 0 (List.take k o)).length+1<=_;rw[List.nil_append,Qp,Qh];omega) (by omega)) (We ⟨QU _,Qr.2 ho⟩ (We (zFS (k:=8) (by show([]++List.drop 0 (List.take k o)++[_]).length+(List.drop k (List.take o.length o)).length<=_;rw[List.nil_append,QC,Qp,Qh,Qp,Qh,List.length_singleton];omega) (by omega)) (We ⟨QU _,Qr.2 hs⟩ (We (zFS (k:=8) (by show 0+(List.drop 0 (List.take k s)).length<=_;rw[Qp,Qh];omega) (by omega)) (We (zFS (k:=8) (by show([]++List.drop 0 (List.take k s)).length+1<=_;rw[List.nil_append,Qp,Qh];omega) (by omega)) (We ⟨QU _,Qr.2 hs⟩ (We (zFS (k:=8) (by show([]++List.drop 0 (List.take k s)++[_]).length+(List.drop k (List.take s.length s)).length<=_;rw[List.nil_append,QC,Qp,Qh,Qp,Qh,List.length_singleton];omega) (by omega)) (h))))))))))
theorem zgV{n:Nx}{l:List Vw}(hl:l.length<=30)(A:∀v∈l,v.Ok)(U:(l.map Vw.nm).Nodup){P:AV->Prop}{m i:Nat}(C:i<l.length)(hz:(sco n l[i]).2=0)(cont:Wp (z5 m (views l) (ofNat (i+1)) n.j n.bd n.m.a n.m.b n.m.c n.m.d n.r n.t ((rk n (l.take (i+1))).map idx) ((rk n (l.take (i+1))).map scV)) P):∀(f k:Nat),k<=(rk n (l.take i)).length->(rk n (l.take i)).length-k<f->(∀j (u:j<(rk n (l.take i)).length),j<k->ltN (rk n (l.take i))[j] (ofNat i,(sco n l[i]).1,l[i].nm.map UInt8.ofNat)=true)->Wp (zB6 m f (views l) ((rk n (l.take i)).map idx) ((rk n (l.take i)).map scV) (ofNat i) (sco n l[i]).1 (ofNat k) n.j n.bd n.m.a n.m.b n.m.c n.m.d n.r n.t) P:=by
 have D:(l.take i).length=i:=by rw[Qh];omega
 have W:l.take (i+1)=l.take i++[l[i]]:=zBa C;have w:((l.take (i+1)).map Vw.nm).Nodup:=U.sublist ((List.take_sublist _ _).map _);have S:rks n 0 (l.take (i+1))=rks n 0 (l.take i)++[(ofNat i,(sco n l[i]).1,l[i].nm.map UInt8.ofNat)]:=by
  rw[W,zNo,D,QY];simp[rks,hz]
 have L:zHQ ltN (rks n 0 (l.take (i+1)))=true:=zVB (λv F=>(A v (QT F)).nm) w
 have G:∀k (hk:k<(rk n (l.take i)).length),∃j v,∃u:j<l.length,l[j]=v/\j<i/\(rk n (l.take i))[k]=(ofNat j,(sco n v).1,v.nm.map UInt8.ofNat):=λk hk=>by
  have h1:(rk n (l.take i))[k]∈rks n 0 (l.take i):=zD3.mem_iff.1 (QR hk);obtain⟨j,v,I,E⟩:=zVA h1;rw[QY]at E;obtain⟨u,z⟩:=QB.1 I;rw[D]at u;rw[List.getElem_take]at z;exact⟨j,v,by omega,z,u,E⟩
 have R:∀j (u:j<l.length),j<i->l[j].nm.map UInt8.ofNat≠l[i].nm.map UInt8.ofNat:=λj u H e=>by
  have e:=ofNat_inj (A _ (QR u)).nm (A _ (QR C)).nm e;have T:l[i].nm∈(l.take i).map Vw.nm:=Qg.2 ⟨l[j],by rw[List.mem_take_iff_getElem];exact⟨j,by omega,rfl⟩,e⟩
  rw[W,Qq]at w;exact(List.nodup_append.1 w).2.2 _ T _ (Qa.2 rfl) rfl
 have K:(rk n (l.take i)).length<=30:=by have:=zU1 (n:=n) (l:=l.take i);omega
 intro f
 induction f with
 |zero=>intro k _ h;omega
 |succ f ih=>
  intro k hk hf X;have M:∀b:Bool,(b=true->∃hk:k<(rk n (l.take i)).length,ltN (rk n (l.take i))[k] (ofNat i,(sco n l[i]).1,l[i].nm.map UInt8.ofNat)=true)->(b=false->∀hk:k<(rk n (l.take i)).length,ltN (rk n (l.take i))[k] (ofNat i,(sco n l[i]).1,l[i].nm.map UInt8.ofNat)=false)->Wp (zAf m f (views l) ((rk n (l.take i)).map idx) ((rk n (l.take i)).map scV) (ofNat i) (sco n l[i]).1 (ofNat k) b n.j n.bd n.m.a n.m.b n.m.c n.m.d n.r n.t) P:=λb h1 I=>by
   cases b with
   |true=>
    obtain⟨g,hx⟩:=h1 rfl;rw[zFG,zJ4,zKj,zd (by omega)]
    refine ih (k+1) g (by omega) λj u J=>?_
    by_cases E:j<k
    .exact X j u E
    .have:j=k:=by omega
     subst this;exact hx
   |false=>
    have I:=I rfl;refine zhW (by rw[QG];exact hk) (by rw[QG];exact hk) (by rw[QG];exact K) (by rw[QG];exact K) ?_
    rw[zd (by omega)]
    have e:rk n (l.take (i+1))=(rk n (l.take i)).take k++[(ofNat i,(sco n l[i]).1,l[i].nm.map UInt8.ofNat)]++(rk n (l.take i)).drop k:=by
     rw[←zZQ]
     .show isort ltN (rks n 0 (l.take (i+1)))=isort ltN ((ofNat i,(sco n l[i]).1,l[i].nm.map UInt8.ofNat)::rks n 0 (l.take i))
      have p:(rks n 0 (l.take (i+1))).Perm ((ofNat i,(sco n l[i]).1,l[i].nm.map UInt8.ofNat)::rks n 0 (l.take i)):=by
       rw[S];exact List.perm_append_singleton _ _
      exact zWA zYv L (zbG p L) p
     .exact hk
     .intro j u J;have E:=X j u J;cases z:ltN (ofNat i,(sco n l[i]).1,l[i].nm.map UInt8.ofNat) (rk n (l.take i))[j]with
      |false=>rfl
      |true=>
       have:=zYv.trans _ _ _ E z;rw[zYv.irrefl]at this;cases this
     .intro g;have E:=I g;obtain⟨j,v,u,F,H,e⟩:=G k g;have z:=zZk (x:=(ofNat i,(sco n l[i]).1,l[i].nm.map UInt8.ofNat)) (y:=(rk n (l.take i))[k]) (by rw[e,←F];exact λq=>R j u H q.symm)
      rcases z with z|z
      .exact z
      .rw[E]at z;cases z
    rw[e,Qq,Qq,Qq,Qq,List.map_take,List.map_take,List.map_drop,List.map_drop]at cont;exact cont
  rw[zJQ,QG];refine Wd (λg=>?_) λaa=>M _ (λe=>by cases e) λ_ g=>by omega
  obtain⟨j,v,u,F,H,e⟩:=G k g;have Y:ixN ((rk n (l.take i)).map scV) (ofNat k)=some (.int .i64 (sco n v).1):=by rw[zIF g,e];rfl
  have s2:ixN ((rk n (l.take i)).map idx) (ofNat k)=some (.int .i64 (ofNat j)):=by rw[zIF g,e];rfl
  have O:ltN (rk n (l.take i))[k] (ofNat i,(sco n l[i]).1,l[i].nm.map UInt8.ofNat)=(decide ((sco n l[i]).1<(sco n v).1)||(decide ((sco n v).1=(sco n l[i]).1)&&slt v.nm l[i].nm)):=by
   rw[e,zgd (F▸(A _ (QR u)).nm) (A _ (QR C)).nm];rfl
  refine qk_i Y (Wc (λQ=>M _ (λ_=>⟨g,?_⟩) λe=>by cases e) λQ=>qk_i Y (Wa (λB=>qk_i s2 (zGv u (zGv C (M _ (λV=>⟨g,?_⟩) λV _=>?_)))) λB=>M _ (λe=>by cases e) λ_ _=>?_))
  .rw[O,QM (show(sco n l[i]).1<(sco n v).1 from Q)];rfl
  .have B:(sco n v).1=(sco n l[i]).1:=by simpa using B
   rw[O,QM B,←F,V];simp
  .have B:(sco n v).1=(sco n l[i]).1:=by simpa using B
   rw[O,QM B,←F,V,QJ (show ¬(sco n l[i]).1<(sco n l[j]).1 from F▸Q)];rfl
  .have B:¬(sco n v).1=(sco n l[i]).1:=by simpa using B
   rw[O,QJ B,QJ (show ¬(sco n l[i]).1<(sco n v).1 from Q)];rfl
theorem zge{n:Nx}(p:n.Ok){l:List Vw}(y:l.length<=30)(g:∀v∈l,v.Ok)(u:Pn n l):∀(m i:Nat),i<=l.length->l.length-i<m->Wp (z5 m (views l) (ofNat i) n.j n.bd n.m.a n.m.b n.m.c n.m.d n.r n.t ((rk n (l.take i)).map idx) ((rk n (l.take i)).map scV)) (zaF n l):=by
 intro m
 induction m with
 |zero=>intro i _ h;omega
 |succ m w=>
  intro i A B;rw[zJR,show(views l).length=l.length from QG _]
  refine Wd (λe=>zGv e (zPs (zQg n p (g _ (QR e))).2 ?_)) λk=>?_
  .refine Wa (λf=>?_) λf=>?_
   .have f:¬(sco n l[i]).2=0:=by simpa using f
    rw[zd (by omega)]
    have:=w (i+1) e (by omega)
    have q:rk n (l.take (i+1))=rk n (l.take i):=by
     unfold rk;rw[zBa e,zNo];simp[rks,f]
    rw[q]at this;exact this
   .have f:(sco n l[i]).2=0:=by simpa using f
    have z:(rk n (l.take i)).length<=30:=by have:=zU1 (n:=n) (l:=l.take i);rw[Qh]at this;omega
    exact zgV y g u.2.2 e f (w (i+1) e (by omega)) ze 0 (QI _) (zk (by omega)) λj C h=>by omega
  .rw[List.take_of_length_le k];exact Wb (.inl ⟨u,rfl⟩)
theorem zYj{n:Nx}(e:n.Ok){l:List Vw}(h:l.length<=30)(f:∀v∈l,v.Ok):Wp (zDn n.j n.bd n.m.a n.m.b n.m.c n.m.d n.r n.t (views l)) (zaF n l):=by
 rw[zLT];refine qk_i (zfl n e l (by omega) f) ?_
 by_cases g:Pn n l
 .rw[zch g];exact zge e h f g ze 0 (QI _) (zk (by omega))
 .rw[show(zGp n l != 0)=true by simpa using zSB g,zJ4]
  exact Wb (.inr ⟨g,rfl⟩)
theorem zgf{n:Nx}(e:n.Ok){l:List Vw}(y:l.length<=30)(g:∀v∈l,v.Ok):Wp (zFK n.j n.bd n.m.a n.m.b n.m.c n.m.d n.r n.t (views l)) (zdW n l):=by
 rw[zMT];obtain⟨v,k,⟨f,rfl⟩|⟨f,rfl⟩⟩:=zYj e y g
 .refine zTq k ?_
  rw[show((0:Int) != 0)=false from rfl,zAP]
  cases hk:rk n l with
  |nil=>exact Wb (.inl ⟨f,by rw[hk];rfl⟩)
  |cons x r=>
   have A:(ofNat (List.map idx (x::r)).length==0)=false:=by
    rw[Qe,QL];rfl
   rw[A,zAP];have z:x∈rks n 0 l:=zD3.mem_iff.1 (show x∈rk n l by rw[hk];exact .head _)
   obtain⟨j,v,u,h⟩:=zVA z;rw[QY]at h;obtain⟨q,w⟩:=QB.1 u;have p:ixN (List.map idx (x::r)) 0=some (.int .i64 (ofNat j)):=by rw[h];rfl
   refine qk_i p (zGv q (zPs (zQg n e (g _ (QR q))).2 (qk_i p (Wb (.inl ⟨f,?_⟩)))))
   rw[hk,h,w];rfl
 .refine zTz k ?_
  rw[show(zGp n l != 0)=true by simpa using zSB f,zJ4]
  exact Wb (.inr ⟨f,rfl⟩)
theorem zdr{l:List Vw}(k:l.length<=2000000):Wp (zFf (views l)) λv=>∃b,v=.bool b/\(b=true->l.length<=30/\∀v∈l,v.us.length<=30):=by
 have loop:∀(f i:Nat),i<=l.length->l.length-i<f->(∀v∈l.take i,v.us.length<=30)->Wp (zCD f (views l) (ofNat i)) λv=>∃b,v=.bool b/\(b=true->l.length<=30/\∀v∈l,v.us.length<=30):=by
  intro f
  induction f with
  |zero=>intro i _ h;omega
  |succ f j=>
   intro i e p hs;rw[zKN,show(views l).length=l.length from QG _]
   refine Wd (λd=>zGv d (Wc (λ_=>Wb ⟨false,rfl,λh=>by cases h⟩) λh=>?_)) λg=>?_
   .rw[zd (by omega)]
    refine j (i+1) d (by omega) λv a=>?_
    rw[zBa d]at a;rcases QK.1 a with a|a
    .exact hs v a
    .rw[Qa.1 a];rw[QG,qJ]at h;omega
   .have e:i=l.length:=by omega
    subst e;rw[List.take_length]at hs;refine Wb ⟨_,rfl,λh=>⟨?_,hs⟩⟩
    have:=QP h;rw[qJ]at this;omega
 rw[zMn];exact loop ze 0 (QI _) (zk (by omega)) λv a=>by cases a
theorem zgW(v:Vw)(h:v.Ok):zEP v.nm (pvs v.qw) v.cap.a v.cap.b v.cap.c v.cap.d v.up (uvs v.us)=some v.av:=by
 refine zf ?_
 rw[zLF];have h1:=h.qw.len;have e:=h.us.wT;exact We (zFS (k:=32) (by show 0+_<=_;rw[QG];omega) (by omega)) (We (zFS (k:=88) (by show 0+_<=_;rw[QG];omega) (by omega)) (Wb rfl))
theorem zfm{l:List Vw}(g:l.length<=30)(d:∀v∈l,v.Ok):zFI (views l)=some (.qg 8 (views l)):=by
 have loop:∀(f i:Nat),i<=l.length->l.length-i<f->Wp (zCU f (views l) (ofNat i) (views (l.take i))) λv=>v=.qg 8 (views l):=by
  intro f
  induction f with
  |zero=>intro i _ h;omega
  |succ f e=>
   intro i j p;rw[zK8,show(views l).length=l.length from QG _]
   refine Wd (λa=>zGv a (zOJ (zgW _ (d _ (QR a))) (We (zFS (k:=104) (by show(views (l.take i)).length+1<=_;rw[QG,Qh];omega) (by omega)) ?_))) λb=>?_
   .rw[zd (by omega)]
    have:=e (i+1) a (by omega)
    rw[zBa a,show views (l.take i++[l[i]])=views (l.take i)++[l[i].av]from Qq]at this
    exact this
   .rw[List.take_of_length_le b];exact Wb rfl
 refine zf ?_
 rw[zMJ];exact loop ze 0 (QI _) (zk (by omega))
theorem zdX(n:Nx)(h:n.Ok):zDl n.j n.bd n.m.a n.m.b n.m.c n.m.d n.r n.t=some (.agg [.str n.j,.int .i64 n.bd,.int .i64 n.m.a,.int .i64 n.m.b,.int .i64 n.m.c,.int .i64 n.m.d,.qg 6 n.r,.str n.t]):=by
 refine zf ?_
 rw[zLH];have h1:=h.r.2;have e:zEQ n.r=some (.agg [.qg 6 n.r]):=by
  refine zf ?_
  rw[zLG];exact We (zFS (k:=64) (by show 0+_<=_;omega) (by omega)) (Wb rfl)
 exact zeX e (Wb rfl)
theorem zcp(v:Vw)(h:v.Ok):zER v.nm (pvs v.qw) v.cap.a v.cap.b v.cap.c v.cap.d v.up (uvs v.us) v.nm (pvs v.qw) v.cap.a v.cap.b v.cap.c v.cap.d v.up (uvs v.us)=some (.bool true):=by
 have h1:=h.qw.len;have t:=h.us.wT;have k:∀(f i:Nat),i<=v.us.length->v.us.length-i<f->Wp (zB7 f (ofNat i) v.nm (pvs v.qw) v.cap.a v.cap.b v.cap.c v.cap.d v.up (uvs v.us) v.nm (pvs v.qw) v.cap.a v.cap.b v.cap.c v.cap.d v.up (uvs v.us)) λx=>x=.bool true:=by
  intro f
  induction f with
  |zero=>intro i _ h;omega
  |succ f j=>
   intro i q r;rw[zJS,QG];refine Wd (λe=>zEG e (zEG e ?_)) λg=>Wb rfl
   rw[zd (by omega)]
   simp only[zRb,beq_self_eq_true,Bool.and_self];exact j (i+1) e (by omega)
 have p:∀(f i:Nat),i<=v.qw.length->v.qw.length-i<f->Wp (zCq f (ofNat i) v.nm (pvs v.qw) v.cap.a v.cap.b v.cap.c v.cap.d v.up (uvs v.us) v.nm (pvs v.qw) v.cap.a v.cap.b v.cap.c v.cap.d v.up (uvs v.us)) λx=>x=.bool true:=by
  intro f
  induction f with
  |zero=>intro i _ h;omega
  |succ f j=>
   intro i q r;rw[zKk,QG];refine Wd (λe=>p_at e (p_at e ?_)) λg=>k ze 0 (QI _) (zk (by omega))
   rw[zd (by omega)]
   simp only[zRb,Bool.and_self];exact j (i+1) e (by omega)
 refine zf ?_
 rw[zLU];have ne:∀x:Int,(x != x)=false:=λx=>by simp
 simp only[zRb,beq_self_eq_true,Bool.and_self,Bool.not_true,zAP,ne];rw[zKm,zAP,zKl];exact p ze 0 (QI _) (zk (by omega))
theorem zcq(R:List Rn)(j:R.length<=30):zES (R.map idx) (R.map idx)=some (.bool true):=by
 have g:∀(f i:Nat),i<=R.length->R.length-i<f->Wp (zCr f (R.map idx) (R.map idx) (ofNat i)) λx=>x=.bool true:=by
  intro f
  induction f with
  |zero=>intro i _ h;omega
  |succ f d=>
   intro i k p;rw[zKn,QG];refine Wd (λa=>?_) λb=>Wb rfl
   have e:ixN (R.map idx) (ofNat i)=some (.int .i64 R[i].1):=zIF a;refine qk_i e (qk_i e ?_)
   rw[show(R[i].1 != R[i].1)=false by simp,zAP,zd (by omega)]
   exact d (i+1) a (by omega)
 refine zf ?_
 rw[zLV,show(ofNat (R.map idx).length != ofNat (R.map idx).length)=false by simp,zAP]
 exact g ze 0 (QI _) (zk (by omega))
theorem zZR{l:List Vw}(r:l.length<=30)(j:∀v∈l,v.Ok)(a b c g:Int)(R:List Rn)(q:R.length<=30):∀(f i:Nat),i<=l.length->l.length-i<f->Wp (zBl f (views l) (views l) a b c a b c (R.map idx) g (R.map idx) g (ofNat i)) λx=>x=.bool true:=by
 intro f
 induction f with
 |zero=>intro i _ h;omega
 |succ f p=>
  intro i t u;rw[zIs,show(views l).length=l.length from QG _]
  refine Wd (λd=>zGv d (zGv d (qk_b (zcp _ (j _ (QR d))) ?_))) λk=>?_
  .rw[zd (by omega)]
   exact p (i+1) d (by omega)
  .have e:∀x:Int,(x==x)=true:=λx=>by simp
   rw[e,e,e,e];exact qk_b (zcq R q) (Wb rfl)
theorem zfn(n:Nx)(g:n.Ok){l:List Vw}(w:l.length<=30)(k:∀v∈l,v.Ok):∀(f i:Nat),i<=l.length->l.length-i<f->Wp (zBm f (views l) (views l) (ofNat i) n.j n.bd n.m.a n.m.b n.m.c n.m.d n.r n.t) λx=>x=.bool true:=by
 have E:∀x:Int,(x != x)=false:=λx=>by simp
 intro f
 induction f with
 |zero=>intro i _ h;omega
 |succ f J=>
  intro i L M;rw[zIt,show(views l).length=l.length from QG _]
  refine Wd (λp=>?_) λH=>?_
  .obtain⟨h1,I⟩:=zQg n g (k _ (QR p));refine zPt (zdX n g) (zGv p (zPs h1 (zGv p (zPs I ?_))))
   rw[E,E,zd (by omega)]
   exact J (i+1) p (by omega)
  .refine zPt (zdX n g) ?_
   obtain⟨_,C,B⟩:=zaG g w k;obtain⟨_,D,z⟩:=zgf g w k;obtain⟨_,F,A⟩:=zYi g w k;obtain⟨_,G,y⟩:=zYj g w k;by_cases u:Pn n l
   .rcases B with⟨_,rfl⟩|⟨q,_⟩
    rotate_left
    .exact absurd u q
    rcases z with⟨_,rfl⟩|⟨q,_⟩
    rotate_left
    .exact absurd u q
    rcases A with⟨_,rfl⟩|⟨q,_⟩
    rotate_left
    .exact absurd u q
    rcases y with⟨_,rfl⟩|⟨q,_⟩
    rotate_left
    .exact absurd u q
    have K:(rk n l).length<=30:=Qj zU1 w;obtain⟨a,b,c,e⟩:∃a b c:Int,zaE 14 (rk n l)=.qc [.int .i64 a,.int .i64 b,.int .i64 c]:=by
     cases rk n l with
     |nil=>exact⟨_,_,_,rfl⟩
     |cons x r=>exact⟨_,_,_,rfl⟩
    rw[e]at C D;exact zP1 C (zP1 D (zTq F (zTq G (zZR w k a b c 0 (rk n l) K ze 0 (QI _) (zk (by omega))))))
   .rcases B with⟨q,_⟩|⟨_,rfl⟩
    .exact absurd q u
    rcases z with⟨q,_⟩|⟨_,rfl⟩
    .exact absurd q u
    rcases A with⟨q,_⟩|⟨_,rfl⟩
    .exact absurd q u
    rcases y with⟨q,_⟩|⟨_,rfl⟩
    .exact absurd q u
    exact zP1 C (zP1 D (zTz F (zTz G (zZR w k 0 0 (zGp n l) (zGp n l) [] (QI _) ze 0 (QI _) (zk (by omega))))))
structure Vw.T(v:Vw):Prop where
 nm:∀c∈v.nm,c<256
 qw:Pok v.qw
 j:∀u∈v.us,u.j.length<=2000000
theorem law(n:Nx)(p:n.Ok)(l:List Vw)(k:l.length<=2000000)(q:∀v∈l,v.T):zDN n.j n.bd n.m.a n.m.b n.m.c n.m.d n.r n.t (views l)=some (.bool true):=by
 refine zf ?_
 rw[zJT];refine qk_b zbO (Wf rfl<|zhR (zdr k) λb u=>Wa (λ_=>Wb rfl) λe=>?_)
 have e:b=true:=by simpa using e
 obtain⟨k,g⟩:=u e;have f:∀v∈l,v.Ok:=λv h=>⟨(q v h).nm,(q v h).qw,⟨(q v h).j,g v h⟩⟩
 exact zgI (zfm k f) (zfn n p k f ze 0 (QI _) (zk (by omega)))
def zcr:List CD:=[.int .i64,.str,.str,.int .i64,.int .i64,.int .i64]
def zYk:List CD:=[.str,.int .i64,.int .i64,.int .i64,.int .i64,.int .i64,.sl zcr false,.str]
def zcs:List CD:=[.str,.str]
def zdY:List CD:=[.str,.int .i64,.int .i64,.int .i64,.int .i64,.int .i64,.int .i64,.str,.bool]
def zYl:List CD:=[.str,.sl zcs false,.int .i64,.int .i64,.int .i64,.int .i64,.bool,.sl zdY false]
section
variable{N:Nat}
theorem zKF{a:AV}(h:CD.Ok N .str a):∃s,a=.str s/\s.length<=N/\∀c∈s,c<256:=by cases h with|str l h d b=>exact⟨l,rfl,b,h⟩
theorem zDr{a:AV}(h:CD.Ok N (.int .i64) a):∃n,a=.int .i64 n/\-9223372036854775808<=n/\n<=9223372036854775807:=by cases h with|int k n h=>exact⟨n,rfl,h.1,h.2⟩
theorem zZS{a:AV}(h:CD.Ok N .bool a):∃b,a=.bool b:=by cases h with|bool b=>exact⟨b,rfl⟩
theorem z3{c:CD}{cs:List CD}{l:JE}(h:CD.wI N (c::cs) l):∃a r,l=a::r/\CD.Ok N c a/\CD.wI N cs r:=by cases h with|cons h hs=>exact⟨_,_,rfl,h,hs⟩
theorem zRN{l:JE}(h:CD.wI N [] l):l=[]:=by cases h;rfl
theorem zW0{es:List CD}{a:AV}(h:CD.Ok N (.sl es false) a):∃xs:List JE,a=.qg es.length (xs.map .agg)/\(∀x∈xs,CD.wI N es x)/\xs.length<=N:=by cases h with|agg es xs h b=>exact⟨xs,rfl,h,b⟩
theorem zgh{a:AV}(B:N<=2000000)(h:CD.Ok N (.sl zcr false) a):∃r,a=.qg 6 r/\Nds r:=by
 obtain⟨A,rfl,h1,y⟩:=zW0 h;refine⟨_,rfl,λe v=>?_,by rw[QG];omega⟩
 obtain⟨x,q,rfl⟩:=Qg.1 v;have h:=h1 x q;obtain⟨_,_,rfl,d,h⟩:=z3 h;obtain⟨_,_,rfl,u,h⟩:=z3 h;obtain⟨_,_,rfl,g,h⟩:=z3 h;obtain⟨_,_,rfl,w,h⟩:=z3 h;obtain⟨_,_,rfl,j,h⟩:=z3 h;obtain⟨_,_,rfl,p,h⟩:=z3 h;obtain rfl:=zRN h;obtain⟨k,rfl,_⟩:=zDr d;obtain⟨s,rfl,hs,f⟩:=zKF u;obtain⟨t,rfl,z,t8⟩:=zKF g;obtain⟨n,rfl,b⟩:=zDr w;obtain⟨l,rfl,_⟩:=zDr j;obtain⟨r,rfl,_⟩:=zDr p;exact⟨k,s,t,n,l,r,rfl,b.1,b.2,⟨by omega,f⟩,⟨by omega,t8⟩⟩
theorem zSD{α:Type}{av:α->AV}{Q:α->Prop}{es:List CD}:∀{xs:List JE},(∀x∈xs,CD.wI N es x)->(∀x,CD.wI N es x->∃u,AV.agg x=av u/\Q u)->∃l:List α,xs.map AV.agg=l.map av/\l.length=xs.length/\∀u∈l,Q u
 |[],_,_=>⟨[],rfl,rfl,λv a=>by cases a⟩
 |x::xs,h,k=>by
  obtain⟨l,h1,b,f⟩:=zSD (λy d=>h y (.tail _ d)) k
  obtain⟨u,e,q⟩:=k x (h x (.head _));refine⟨u::l,by rw[Qe,Qe,h1,e],by rw[QL,QL,b],λv a=>?_⟩
  rcases QH.1 a with rfl|a
  .exact q
  .exact f v a
theorem zgi{a:AV}(u:N<=2000000)(h:CD.Ok N (.sl zcs false) a):∃l,a=.qg 2 (pvs l)/\Pok l:=by
 obtain⟨r,rfl,h1,k⟩:=zW0 h;obtain⟨l,e,q,d⟩:=zSD (av:=Pr.av) (Q:=λx=>x.n.length<=2000000/\x.v.length<=2000000/\∀c∈x.v,c<256) h1 λx h=>by
  obtain⟨_,_,rfl,f,h⟩:=z3 h;obtain⟨_,_,rfl,g,h⟩:=z3 h;obtain rfl:=zRN h;obtain⟨s,rfl,hs,j⟩:=zKF f;obtain⟨t,rfl,p,t8⟩:=zKF g;exact⟨⟨s,t⟩,rfl,by show s.length<=_;omega,by show t.length<=_;omega,t8⟩
 exact⟨l,by rw[e];rfl,λx b=>(d x b).1,λx b=>(d x b).2,by omega⟩
theorem zgX{a:AV}(C:N<=2000000)(h:CD.Ok N (.sl zdY false) a):∃l,a=.qg 9 (uvs l)/\∀u∈l,u.j.length<=2000000:=by
 obtain⟨B,rfl,h1,z⟩:=zW0 h;obtain⟨l,e,A,p⟩:=zSD (av:=Ut.av) (Q:=λx=>x.j.length<=2000000) h1 λx h=>by
  obtain⟨_,_,rfl,d,h⟩:=z3 h;obtain⟨_,_,rfl,w,h⟩:=z3 h;obtain⟨_,_,rfl,q,h⟩:=z3 h;obtain⟨_,_,rfl,y,h⟩:=z3 h;obtain⟨_,_,rfl,r,h⟩:=z3 h;obtain⟨_,_,rfl,t,h⟩:=z3 h;obtain⟨_,_,rfl,g,h⟩:=z3 h;obtain⟨_,_,rfl,f,h⟩:=z3 h;obtain⟨_,_,rfl,k,h⟩:=z3 h;obtain rfl:=zRN h;obtain⟨b,rfl,D,_⟩:=zKF d;obtain⟨v,rfl,_⟩:=zDr w;obtain⟨x3,rfl,_⟩:=zDr q;obtain⟨x4,rfl,_⟩:=zDr y;obtain⟨x5,rfl,_⟩:=zDr r;obtain⟨x6,rfl,_⟩:=zDr t;obtain⟨x7,rfl,_⟩:=zDr g;obtain⟨x8,rfl,_⟩:=zKF f;obtain⟨x9,rfl⟩:=zZS k;exact⟨⟨b,v,x3,⟨x4,x5,x6,x7⟩,x8,x9⟩,rfl,by show b.length<=_;omega⟩
 exact⟨l,by rw[e];rfl,p⟩
theorem zfo{x:JE}(A:N<=2000000)(h:CD.wI N zYk x):∃n:Nx,x=[.str n.j,.int .i64 n.bd,.int .i64 n.m.a,.int .i64 n.m.b,.int .i64 n.m.c,.int .i64 n.m.d,.qg 6 n.r,.str n.t]/\n.Ok:=by
 obtain⟨_,_,rfl,f,h⟩:=z3 h;obtain⟨_,_,rfl,y,h⟩:=z3 h;obtain⟨_,_,rfl,p,h⟩:=z3 h;obtain⟨_,_,rfl,z,h⟩:=z3 h;obtain⟨_,_,rfl,q,h⟩:=z3 h;obtain⟨_,_,rfl,v,h⟩:=z3 h;obtain⟨_,_,rfl,k,h⟩:=z3 h;obtain⟨_,_,rfl,g,h⟩:=z3 h;obtain rfl:=zRN h;obtain⟨e,rfl,C,_⟩:=zKF f;obtain⟨w,rfl,_⟩:=zDr y;obtain⟨x3,rfl,_⟩:=zDr p;obtain⟨x4,rfl,_⟩:=zDr z;obtain⟨x5,rfl,_⟩:=zDr q;obtain⟨x6,rfl,_⟩:=zDr v;obtain⟨x7,rfl,u⟩:=zgh A k;obtain⟨x8,rfl,B,_⟩:=zKF g;exact⟨⟨e,w,⟨x3,x4,x5,x6⟩,x7,x8⟩,rfl,by show e.length<=_;omega,u,by show x8.length<=_;omega⟩
theorem zds{a:AV}(b:N<=2000000)(h:CD.Ok N (.sl zYl false) a):∃l,a=.qg 8 (views l)/\l.length<=2000000/\∀v∈l,v.T:=by
 obtain⟨D,rfl,h1,B⟩:=zW0 h;obtain⟨l,e,C,k⟩:=zSD (av:=Vw.av) (Q:=Vw.T) h1 λx h=>by
  obtain⟨_,_,rfl,d,h⟩:=z3 h;obtain⟨_,_,rfl,w,h⟩:=z3 h;obtain⟨_,_,rfl,p,h⟩:=z3 h;obtain⟨_,_,rfl,A,h⟩:=z3 h;obtain⟨_,_,rfl,q,h⟩:=z3 h;obtain⟨_,_,rfl,r,h⟩:=z3 h;obtain⟨_,_,rfl,j,h⟩:=z3 h;obtain⟨_,_,rfl,f,h⟩:=z3 h;obtain rfl:=zRN h;obtain⟨z,rfl,_,g⟩:=zKF d;obtain⟨u,rfl,y⟩:=zgi b w;obtain⟨x3,rfl,_⟩:=zDr p;obtain⟨x4,rfl,_⟩:=zDr A;obtain⟨x5,rfl,_⟩:=zDr q;obtain⟨x6,rfl,_⟩:=zDr r;obtain⟨x7,rfl⟩:=zZS j;obtain⟨x8,rfl,t⟩:=zgX b f;exact⟨⟨z,u,⟨x3,x4,x5,x6⟩,x7,x8⟩,rfl,g,y,t⟩
 exact⟨l,by rw[e];rfl,by omega,k⟩
theorem zhY{x:JE}{y:AV}(b:N<=2000000)(hx:CD.wI N zYk x)(d:CD.Ok N (.sl zYl false) y):FnT Tryz.prog G0 3 [.agg x,y] [] 0 (.bool true) [] 0:=by
 have h:=hx.pp;have j:=d.pp;obtain⟨n,rfl,p⟩:=zfo b hx;obtain⟨l,rfl,k,g⟩:=zds b d;have e:=law n p l k g;have f:zG7 Tryz.prog G0 3 (gV t132 1 3):=(t132.ok ze).at;refine(f _ _ (λz a=>?_) (by unfold zDN at e;exact e)).2.2 [] 0
 rcases QH.1 a with rfl|a
 .exact .agg _ h
 .rw[Qa.1 a];exact j
theorem zhN{v:Value}(h:v.oneCell'=true):v.cells.toList=[v]:=by cases v<;>first|rfl|cases h
end
def zhZ(H:Type):BK H:=⟨Rows.uptoBulk,Rows.uptoBulkAll,λ_=>rfl,λd=>by
 cases d with
 |lit l=>cases l<;>exact Qv _
 |_=>exact Qv _,λ_ _=>rfl,λ_=>rfl,rfl,λ_ _=>rfl⟩
theorem zhX:zR1 Tryz.prog 9 28=some zYk:=by kernel_rfl
theorem zhP:zR1 Tryz.prog 10 29=some [.sl zYl false]:=by kernel_rfl
end Go.Proofs.YtfiahaglhiijaaaGreatDoor.score
