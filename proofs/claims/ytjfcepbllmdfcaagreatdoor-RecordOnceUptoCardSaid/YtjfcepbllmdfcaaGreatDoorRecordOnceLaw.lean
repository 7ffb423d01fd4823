/- THE LAW OF THE LEAN FUNCTIONS, IN PLAIN LEAN: part 2. No condition. -/
import Derived.Test.YtjfcepbllmdfcaaGreatDoorRecordOnceLawA
set_option linter.unusedVariables false
set_option linter.unusedSimpArgs false
set_option linter.unusedSectionVars false
open Int(ofNat)
namespace Go.Proofs.YtjfcepbllmdfcaaGreatDoor.record
open Go Go.Sy
variable[MX]
theorem zTF{us0:List Wd}{A B:List JV}{w:JV}(h:us0.map Prod.fst=A++(w::B)):∃p,ixN (wds 0 us0) (ofNat A.length)=some (.agg [.str w,.int .i64 p])/\A.length<us0.length:=by
 have hl:=congrArg List.length h;rw[QG,QH,QR]at hl;have e:A.length<us0.length:=by omega
 have h1:(us0.map Prod.fst)[A.length]?=some w:=by rw[h];simp
 rw[Qb,QD e]at h1;have h1:us0[A.length].1=w:=by simpa using h1
 refine⟨0+us0[A.length].2,?_,e⟩
 show(wds 0 us0)[A.length]? = _
 unfold wds;rw[Qb,QD e,←h1];rfl
theorem opt{T:Type}{F:T->Nat->Nat->JV->List JV->JF}{x y1:T}{us0:List Wd}{A B:List JV}{key v w:JV}{P:AV->Prop}{cond:Bool}{L:List JV}(l:us0.map Prod.fst=A++((if cond=true then[key++(61::w)]else[])++B))(z:us0.length<=1000)(h0:cond=false->x=y1)
  (hyp:cond=true->∀f i ns v0 p,ofNat i<ofNat us0.length->i<1000000->ixN (wds 0 us0) (ofNat i)=some (.agg [.str (key++(61::w)),.int .i64 p])->key ∉ ns->Wp (F y1 f (i+1) v (ns++[key])) P->Wp (F x (f+1) i v0 ns) P) (C:key ∉ L)
  (q:∀f i ns v0,i=(A++(if cond=true then[key++(61::w)]else[])).length->us0.length-i<f->(∀s∈ns,s∈key::L)->Wp (F y1 f i v0 ns) P):
  ∀f i ns v0,i=A.length->us0.length-i<f->(∀s∈ns,s∈L)->Wp (F x f i v0 ns) P:=by
 intro f i ns v0 hi E e;cases cond with
 |false=>
  have:=h0 rfl;subst this;exact q f i ns v0 (by rw[hi];simp) E λs g=>.tail _ (e s g)
 |true=>
  obtain⟨p,D,j⟩:=zTF (w:=key++(61::w)) (by simpa using l)
  subst hi;cases f with
  |zero=>omega
  |succ f=>
   exact hyp rfl f A.length ns v0 p (Int.ofNat_lt.2 j) (by omega) D (λH=>C (e _ H)) (q f (A.length+1) _ v (by simp) (by omega) λs g=>by
    rcases QJ.1 g with g|g
    .exact .tail _ (e s g)
    .rw[QW.1 g];exact .head _)
noncomputable abbrev LN(l0:JE)(us0:List Wd)(k:Int)(n u:JV)(b c d:Int)(i_:JV)(x1 x2 x3 x4:Int)(r:JE)(ba:Int)(f i:Nat)(v0:JV)(ns:List JV):JF:=zg f l0 (wds 0 us0) (ofNat us0.length) (ofNat i) k n u b c d i_ x1 x2 x3 x4 r ba v0 (ofNat 0) [] [] (ofNat 0) (ofNat 0) (ofNat 0) [] (ofNat 0) (ofNat 0) (ofNat 0) (ofNat 0) (ofNat 0) (ofNat 0) (ofNat 0) (zAp ns)
def nmC(c:Nat):Prop:=97<=c/\c<=122\/48<=c/\c<=57\/c=45
abbrev tt(G:Prop)(v:AV):Prop:=v=.bool true->G
abbrev zz(G:Prop)(v:AV):Prop:=v=.int .i64 0->G
theorem ff{G:Prop}:tt G (.bool false):=λh=>by cases h
theorem zZj{o:JF}{G:Prop}(h:Wp o (tt G))(e:o=some (.bool true)):G:=by
 obtain⟨v,g,k⟩:=h;rw[e]at g;cases g;exact k rfl
theorem zVS{o:JF}{G:Prop}(h:Wp o (zz G))(e:o=some (.int .i64 0)):G:=by
 obtain⟨v,g,k⟩:=h;rw[e]at g;cases g;exact k rfl
theorem zDh{s:JV}(h:zq s=some (.bool true)):s≠[]/\s.length<=16/\∀c∈s,nmC c:=by
 have z:=zTv h;refine zZj ?_ h
 have loop:∀(n i:Nat),i<=s.length->s.length-i<n->(∀j (g:j<s.length),j<i->nmC s[j])->Wp (zDR n (ofNat s.length) (ofNat i) (bytes s)) (tt (∀c∈s,nmC c)):=by
  intro n
  induction n with
  |zero=>intro i _ h;omega
  |succ n F=>
   intro i hi H hb;rw[zIy];refine Wp.lt (λh=>zW8 h (zQa (zNL h) ?_)) λD=>Wb λ_ c hc=>?_
   .have next:∀b,(b=false->nmC s[i])->Wp (zAz n (ofNat s.length) (ofNat i) b (bytes s)) (tt (∀c∈s,nmC c)):=λb B=>by
     rw[zIx];refine Wa (λ_=>Wb ff) λA=>?_
     rw[zo (by omega)]
     refine F (i+1) h (by omega) λj g E=>?_
     rcases Nat.lt_or_ge j i with C|C
     .exact hb j g C
     .obtain rfl:j=i:=by omega
      exact B A
    have d45:((ofNat s[i] != 45)=false)->nmC s[i]:=λh=>by
     have h:(s[i]:Int)=45:=by simpa using h
     exact .inr (.inr (by omega))
    refine Wc (λa=>?_) λa=>Wc (λb=>?_) λb=>next _ λ_=>.inl ?_
    .refine Wc (λb=>next _ d45) λb=>Wc (λc=>next _ d45) λc=>next _ λ_=>.inr (.inl ?_)
     rw[QB]at b c;omega
    .refine Wc (λb=>next _ d45) λb=>Wc (λc=>next _ d45) λc=>next _ λ_=>.inr (.inl ?_)
     rw[QB]at b c;omega
    .rw[QB]at a b;omega
   .obtain⟨j,g,rfl⟩:=List.getElem_of_mem hc;exact hb j g (by omega)
 have l:∀b,(b=false->s≠[])->Wp (zBN s b) (tt (s≠[]/\s.length<=16/\∀c∈s,nmC c)):=λb hb=>by
  rw[zF6];refine Wa (λ_=>Wb ff) λA=>?_
  rw[zIz,QG];exact(loop zp 0 (QS _) (zQ (by omega)) λj g h=>by omega).mono λv k e=>⟨hb A,z,k e⟩
 rw[zHE];refine Wc (λ_=>l _ λh=>by cases h) λh1=>Wc (λ_=>l _ λh=>by cases h) λh2=>?_
 rw[QB]at h1;have hl:0<s.length:=by omega
 have x:s≠[]:=List.length_pos_iff.1 hl;rw[show ixN s 0=some s[0]from zAO hl]
 exact Wc (λ_=>l _ λh=>by cases h) λh1=>l _ λ_=>x
theorem zKo(x l m:Int):∃b,zA5 x l m=some (.bool b)/\(b=true->l<=x/\x<=m):=by
 rw[zJJ];by_cases h:x>=l
 .rw[Ql h];exact⟨_,rfl,λe=>⟨h,Qi e⟩⟩
 .rw[Qn h];exact⟨_,rfl,λe=>by cases e⟩
theorem zTG(es z:JE)(h:Nds es)(h':Nds z)(e:zU es z=some (.bool true)):es=z:=by
 refine zZj ?_ e
 have loop:es.length=z.length->∀(n i:Nat),i<=es.length->es.length-i<n->(∀j,j<i->es[j]? = z[j]?)->Wp (zY n es z (ofNat es.length) (ofNat i)) (tt (es=z)):=by
  intro hl n
  induction n with
  |zero=>intro i _ h;omega
  |succ n J=>
   intro i hi K hb;rw[zBK];refine Wp.lt (λg=>?_) λD=>Wb λ_=>?_
   .have x:i<z.length:=hl▸g
    obtain⟨k,s,t,m,l,r,C,_⟩:=h.1 _ (Qf g);obtain⟨F,s2,t2,m2,I,E,B,_⟩:=h'.1 _ (Qf x);refine zEO ((zAO g).trans (congrArg some C)) (zEO ((zAO x).trans (congrArg some B)) (Wa (λ_=>Wb ff) λA=>?_))
    rw[zo (by have:=h.2;omega)]
    refine J (i+1) g (by omega) λj H=>?_
    rcases Nat.lt_or_ge j i with h1|h1
    .exact hb j h1
    .obtain rfl:j=i:=by omega
     rw[QD g,QD x,C,B];have A:(!(k==F&&(zi s s2&&(zi t t2&&(m==m2&&(l==I&&r==E))))))=false:=A;rw[zJi,zJi]at A;simp only[Bool.not_eq_false',qr,beq_iff_eq,decide_eq_true_eq]at A;obtain⟨rfl,rfl,rfl,rfl,rfl,rfl⟩:=A;rfl
   .refine List.ext_getElem? λj=>?_
    rcases Nat.lt_or_ge j i with h1|h1
    .exact hb j h1
    .rw[List.getElem?_eq_none (by omega),List.getElem?_eq_none (by omega)]
 rw[zCj];refine Wa (λ_=>Wb ff) λe=>loop ?_ _ 0 (QS _) (zQ (by have:=h.2;omega)) λj H=>by omega
 have e:(es.length:Int)=z.length:=by simpa using e
 exact Int.ofNat_inj.1 e
def zQd:JE:=[zT1 (ofNat 1) [] [] (ofNat 0) (Int.negSucc 0) (Int.negSucc 0)]
theorem zPL{r:JE}(hr:Nds r):∃b,zB9 r=some (.bool b)/\(b=true->r=zQd):=by
 obtain⟨_,e,b,rfl,_⟩:=zJz r zQd hr.b zRo.b;refine⟨b,zDF ?_,λh=>zTG r zQd hr zRo (h▸e)⟩
 rw[zKE];exact zUQ zDM (qk_b e (Wb rfl))
def zLk(r:JE)(t:JV):Prop:=0<r.length/\okS t/\t.length<=1024/\zKO r=some (.qe [.str t,.int .i64 (ofNat 0)])/\zB7 t=some (.qe [.agg [.qd 6 r],.agg [.int .i64 (ofNat 0),.int .i64 (ofNat 0)]])
theorem zQU{r:JE}(hr:Nds r)(h:zB8 r=some (.int .i64 0)):∃t,zLk r t:=by
 have I:∃t,0<r.length/\okS t/\t.length<=1024/\zB1 zp r (wrapx .i64 (ofNat r.length-1))=some (.str t)/\zB7 t=some (.qe [.agg [.qd 6 r],.agg [.int .i64 (ofNat 0),.int .i64 (ofNat 0)]]):=by
  refine zVS ?_ h
  have bad:∀{G:Prop},zz G (.int .i64 (ofNat 2)):=λ{G} h=>by cases h
  rw[zKD];refine zAh (zPn r hr.b) λb hb=>Wa (λ_=>Wb bad) λz=>?_
  have z:b=true:=by simpa using z
  obtain⟨h0,B,L,D⟩:=hb z;have K:NC zC7 r:=λj k s t n l T e=>by
   obtain⟨V,Q,U,S,W,O,M,_,_,H,A⟩:=hr.1 _ (QE e);cases M;exact⟨H.2,A.2⟩
  obtain⟨_,e0,t,rfl,A⟩:=zNQ (λ_ h=>h) D K h0 B
  refine qk_s e0 ?_
  obtain⟨v,e,hv⟩:=zQR t λc hc=>by have:=(A c hc).2.1;omega
  have g:¬(ofNat t.length > 1024)\/v=.qe [.agg [.qa],.agg [.int .i64 (ofNat 3),.int .i64 (Int.negSucc 0)]]:=by
   by_cases h1:ofNat t.length > 1024
   .rw[zKC,Ql h1]at e;cases e;exact .inr rfl
   .exact .inl h1
  rcases hv with⟨x,f,rfl,J⟩|⟨l,rfl,C,hl⟩
  .rw[e];show Wp (br (!(x==0&&f==0)) _ _) _
   exact Wa (λ_=>Wb bad) λE=>absurd (zLh (p:=⟨[],0,0,0,x,f,[],λc hc=>by cases hc⟩) E) J
  .have g:t.length<=1024:=by
    rcases g with h1|h1
    .rw[QB]at h1;omega
    .cases h1
   refine zSl e ?_
   refine Wa (λ_=>Wb bad) λ_=>?_
   obtain⟨_,e2,F,rfl,_⟩:=zJz l r (zSD C hl).b hr.b;refine qk_b e2 (Wa (λ_=>Wb bad) λqS=>Wb λ_=>⟨t,h0,A,g,e0,?_⟩)
   have qS:F=true:=by simpa using qS
   rw[e,zTG l r (zSD C hl) hr (qS▸e2)]
 obtain⟨t,h0,h1,h2,h3,h4⟩:=I;refine⟨t,h0,h1,h2,zDF ?_,h4⟩
 rw[zRr];exact zCe h (Wa (λh=>by cases h) λ_=>qk_s h3 (Wb rfl))
def CK(k:Int)(u:JV)(b c d:Int)(i_:JV)(r:JE)(ba:Int):Prop:=
 (k=1/\zq u=some (.bool true)/\(0<=b/\b<=3)/\(1<=c/\c<=64)/\(1<=d/\d<=c)/\ba=0/\(∃t,zLk r t)/\(i_=[]\/zq i_=some (.bool true))) ∨
 (k=2/\zq u=some (.bool true)/\(0<=b/\b<=3)/\(1<=c/\c<=64)/\d=0/\i_=[]/\ba=0/\∃t,zLk r t) ∨
 (k=3/\u=[]/\b=0/\c=0/\d=0/\i_=[]/\r=[]/\1<=ba/\ba<=64)
theorem len0{r:JE}(h:(ofNat r.length==0)=true):r=[]:=by
 have h:(r.length:Int)=0:=by simpa using h
 exact List.length_eq_zero_iff.1 (by omega)
theorem j1F{G:Prop}:Wp (zk false) (zz G):=by
 rw[zFv];exact Wa (λ_=>Wb λh=>by cases h) λh=>by cases h
theorem j1B{G:Prop}{t:Bool}(h:t=true->G):Wp (zk t) (zz G):=by
 cases t
 .exact j1F
 .rw[zFv];exact Wa (λh=>by cases h) λ_=>Wb λ_=>h rfl
section
variable{k:Int}{n:JV}{u:JV}{b:Int}{c:Int}{d:Int}{i_:JV}{x1:Int}{x2:Int}{x3:Int}{x4:Int}{r:JE}{ba:Int}{G:Prop}
theorem j2B{t:Bool}(hr:Nds r)(h:t=true->(∃y,zLk r y)->(i_=[]\/zq i_=some (.bool true))->G):Wp (zAo t k n u b c d i_ x1 x2 x3 x4 r ba) (zz G):=by
 rw[zFw];refine Wa (λl=>?_) λ_=>j1F
 obtain⟨_,e,z,rfl,_⟩:=zIU r hr.b;refine zCe e (Wa (λg=>?_) λ_=>j1F)
 have g:z=0:=by simpa using g
 have j:=zQU hr (g▸e)
 refine Wa (λhi=>?_) λ_=>?_
 .have hi:i_=[]:=zP hi;exact j1B λ_=>h l j (.inl hi)
 .obtain⟨_,e2,y,rfl,_⟩:=zA1 i_;refine qk_b e2 (Wa (λs=>?_) λ_=>j1F)
  obtain⟨x,e3,_⟩:=zPL hr;exact qk_b e3 (j1B λ_=>h l j (.inr (s▸e2)))
theorem zUn(hr:Nds r)(h:zAk k n u b c d i_ x1 x2 x3 x4 r ba=some (.int .i64 0)):zq n=some (.bool true)/\okA x1 x2 x3 x4/\CK k u b c d i_ r ba:=by
 refine zVS ?_ h
 have A:∀{t:Bool},Wp (zBr t k n u b c d i_ x1 x2 x3 x4 r ba) (zz (t=true/\CK k u b c d i_ r ba)):=λ{t}=>by
  rw[zFx];obtain⟨_,e,y,rfl,_⟩:=zA1 u;obtain⟨I,f1,g1⟩:=zKo b (ofNat 0) (ofNat 3);obtain⟨K,f2,g2⟩:=zKo c (ofNat 1) (ofNat 64);obtain⟨J,f3,g3⟩:=zKo d (ofNat 1) c;obtain⟨H,f4,g4⟩:=zKo ba (ofNat 1) (ofNat 64);have F:=λ{t}=>j2B (k:=k) (n:=n) (u:=u) (b:=b) (c:=c) (d:=d) (i_:=i_) (x1:=x1) (x2:=x2) (x3:=x3) (x4:=x4) (ba:=ba) (t:=false) (G:=t=true/\CK k u b c d i_ r ba) hr λh=>by cases h
  refine Wa (λl=>?_) λ_=>Wa (λl=>?_) λ_=>Wa (λl=>?_) λ_=>j1F
  .refine Wa (λj=>qk_b e (Wa (λs=>qk_b f1 (Wa (λh1=>qk_b f2 (Wa (λh2=>qk_b f3 (Wa (λh3=>j2B hr λh4 E hi=>⟨j,.inl ⟨by simpa using l,s▸e,g1 h1,g2 h2,g3 h3,by simpa using h4,E,hi⟩⟩) λ_=>F)) λ_=>F)) λ_=>F)) λ_=>F)) λ_=>F
  .refine Wa (λj=>qk_b e (Wa (λs=>qk_b f1 (Wa (λh1=>qk_b f2 (Wa (λh2=>Wa (λh3=>Wa (λh4=>Wa (λx=>?_) λ_=>j1F) λ_=>j1F) λ_=>j1F) λ_=>j1F)) λ_=>j1F)) λ_=>j1F)) λ_=>j1F
   obtain⟨_,e6,z,rfl,_⟩:=zIU r hr.b;refine zCe e6 (j1B λg=>⟨j,.inr (.inl ⟨by simpa using l,s▸e,g1 h1,g2 h2,by simpa using h3,zP h4,by simpa using x,?_⟩)⟩)
   have g:z=0:=by simpa using g
   exact zQU hr (g▸e6)
  .exact Wa (λj=>Wa (λh1=>Wa (λh2=>Wa (λh3=>Wa (λh4=>Wa (λx=>Wa (λD=>qk_b f4 (j1B λC=>⟨j,.inr (.inr ⟨by simpa using l,zP h1,by simpa using h2,by simpa using h3,by simpa using h4,zP x,len0 D,g4 C⟩)⟩)) λ_=>j1F) λ_=>j1F) λ_=>j1F) λ_=>j1F) λ_=>j1F) λ_=>j1F) λ_=>j1F
 rw[zHk];obtain⟨_,e,y,rfl,_⟩:=zA1 n;refine qk_b e (Wa (λs=>zCe (zFI x1 x2 x3 x4) (Wa (λg=>?_) λ_=>A.mono λv h z=>by cases (h z).1)) λ_=>A.mono λv h z=>by cases (h z).1)
 refine A.mono λv h z=>⟨s▸e,?_,(h z).2⟩
 by_cases B:okA x1 x2 x3 x4
 .exact B
 .rw[if_neg B]at g;cases g
variable{v:JV}{y:Int}
abbrev okR(k:Int)(n u:JV)(b c d:Int)(i_:JV)(x1 x2 x3 x4:Int)(r:JE)(ba:Int)(v:JV):Option (AV×Heap×Vecs):=some (.bool true,[(0,.cells false [.int .i64 k,.str n,.str u,.int .i64 b,.int .i64 c,.int .i64 d,.str i_,.int .i64 x1,.int .i64 x2,.int .i64 x3,.int .i64 x4,.qd 6 r,.int .i64 ba,.str v])],[])
theorem zaC(h:zq v=some (.bool true)):zDm k n u b c d i_ x1 x2 x3 x4 r ba v=okR k n v b c d i_ x1 x2 x3 x4 r ba v:=by
 rw[zLx,h];rfl
theorem zcp(h:zq v=some (.bool true)):zEo k n u b c d i_ x1 x2 x3 x4 r ba v=okR k n u b c d v x1 x2 x3 x4 r ba v:=by
 rw[zM8,h];rfl
theorem zaD(h:zEQ v=some (.int .i64 y))(h0:0<=y):zDn k n u b c d i_ x1 x2 x3 x4 r ba v=okR k n u y c d i_ x1 x2 x3 x4 r ba v:=by
 rw[zLy,h,zY7,Ql h0]
theorem zaE{l:JE}(h:zB7 v=some (.qe [.agg [.qd 6 l],.agg [.int .i64 (ofNat 0),.int .i64 (ofNat 0)]])):zDq k n u b c d i_ x1 x2 x3 x4 r ba v=okR k n u b c d i_ x1 x2 x3 x4 l ba v:=by
 rw[zLB,h];rfl
theorem zYB(h:zV v=some (.qe [.int .i64 y,.bool true])):zCY k n u b c d i_ x1 x2 x3 x4 r ba v=okR k n u b y d i_ x1 x2 x3 x4 r ba v:=by
 rw[zKW,zKV,h];rfl
theorem zaF(h:zV v=some (.qe [.int .i64 y,.bool true])):zDo k n u b c d i_ x1 x2 x3 x4 r ba v=okR k n u b c y i_ x1 x2 x3 x4 r ba v:=by
 rw[zLz,zIY,h];rfl
theorem zYC(h:zV v=some (.qe [.int .i64 y,.bool true])):zC0 k n u b c d i_ x1 x2 x3 x4 r ba v=okR k n u b c d i_ x1 x2 x3 x4 r y v:=by
 rw[zKY,zIZ,h];rfl
theorem zbI(h:zV v=some (.qe [.int .i64 y,.bool true])):zDK k n u b c d i_ x1 x2 x3 x4 r ba v=okR k n u b c d i_ y x2 x3 x4 r ba v:=by
 rw[zMq,zJ5,h];rfl
theorem zbJ(h:zV v=some (.qe [.int .i64 y,.bool true])):zDL k n u b c d i_ x1 x2 x3 x4 r ba v=okR k n u b c d i_ x1 y x3 x4 r ba v:=by
 rw[zMr,zIh,h];rfl
theorem zaG(h:zV v=some (.qe [.int .i64 y,.bool true])):zDp k n u b c d i_ x1 x2 x3 x4 r ba v=okR k n u b c d i_ x1 x2 y x4 r ba v:=by
 rw[zLA,zIi,h];rfl
theorem zYD(h:zV v=some (.qe [.int .i64 y,.bool true])):zCZ k n u b c d i_ x1 x2 x3 x4 r ba v=okR k n u b c d i_ x1 x2 x3 y r ba v:=by
 rw[zKX,zIj,h];rfl
end
theorem zXt:zc 1 [117,115,101,114]=some (.bool true):=by
 simp only[zA,zn,zm,zl];rfl
theorem zXu:zc 1 [98,97,110,100]=some (.bool true):=by
 simp only[zA,zn,zm,zl];rfl
theorem zVT:zc 1 [99,111,117,110,116]=some (.bool true):=by
 simp only[zA,zn,zm,zl];rfl
theorem zXv:zc 1 [100,111,119,110]=some (.bool true):=by
 simp only[zA,zn,zm,zl];rfl
theorem zaH:zc 1 [105,110]=some (.bool true):=by
 simp only[zA,zn,zm,zl];rfl
theorem zYE:zc 1 [99,112,117]=some (.bool true):=by
 simp only[zA,zn,zm,zl];rfl
theorem zYF:zc 1 [114,97,109]=some (.bool true):=by
 simp only[zA,zn,zm,zl];rfl
theorem zXw:zc 1 [100,105,115,107]=some (.bool true):=by
 simp only[zA,zn,zm,zl];rfl
theorem zVU:zc 1 [112,111,114,116,115]=some (.bool true):=by
 simp only[zA,zn,zm,zl];rfl
theorem zXx:zc 1 [114,117,108,101]=some (.bool true):=by
 simp only[zA,zn,zm,zl];rfl
theorem zXy:zc 2 [117,115,101,114]=some (.bool true):=by
 simp only[zA,zn,zm,zl];rfl
theorem zXz:zc 2 [98,97,110,100]=some (.bool true):=by
 simp only[zA,zn,zm,zl];rfl
theorem zVV:zc 2 [99,111,117,110,116]=some (.bool true):=by
 simp only[zA,zn,zm,zl];rfl
theorem zYG:zc 2 [99,112,117]=some (.bool true):=by
 simp only[zA,zn,zm,zl];rfl
theorem zYH:zc 2 [114,97,109]=some (.bool true):=by
 simp only[zA,zn,zm,zl];rfl
theorem zXA:zc 2 [100,105,115,107]=some (.bool true):=by
 simp only[zA,zn,zm,zl];rfl
theorem zVW:zc 2 [112,111,114,116,115]=some (.bool true):=by
 simp only[zA,zn,zm,zl];rfl
theorem zXB:zc 2 [114,117,108,101]=some (.bool true):=by
 simp only[zA,zn,zm,zl];rfl
theorem zYI:zc 3 [99,112,117]=some (.bool true):=by
 simp only[zA,zn,zm,zl];rfl
theorem zYJ:zc 3 [114,97,109]=some (.bool true):=by
 simp only[zA,zn,zm,zl];rfl
theorem zXC:zc 3 [100,105,115,107]=some (.bool true):=by
 simp only[zA,zn,zm,zl];rfl
theorem zVX:zc 3 [112,111,114,116,115]=some (.bool true):=by
 simp only[zA,zn,zm,zl];rfl
theorem zVY:zc 3 [98,97,116,99,104]=some (.bool true):=by
 simp only[zA,zn,zm,zl];rfl
theorem zYK(s:JV)(l:List JV)(hl:l.length<=1000)(j:Nat)(D:j<l.length)(A:l[j]=s)(z:∀i (h:i<l.length),i<j->l[i]≠s):zAT (l.map .str) s=some (.int .i64 (ofNat j)):=by
 have loop:∀(f i:Nat),i<=j->l.length-i<f->Wp (zAx f (l.map .str) s (ofNat l.length) (ofNat i)) λv=>v=.int .i64 (ofNat j):=by
  intro f
  induction f with
  |zero=>intro i _ h;omega
  |succ f B=>
   intro i hi C;rw[zF9];refine Wp.lt (λg=>qk_s (zUL g) (Wa (λx=>?_) λx=>?_)) λh=>by omega
   .rcases Nat.lt_or_ge i j with h|h
    .exact absurd (zP x) (λe=>z i g h (by first|exact e|exact e.symm))
    .obtain rfl:i=j:=by omega
     exact Wb rfl
   .rcases Nat.lt_or_ge i j with h|h
    .rw[zo (by omega)]
     exact B (i+1) h (by omega)
    .obtain rfl:i=j:=by omega
     rw[A,zD4]at x;cases x
 refine zDF ?_
 rw[zGW,QG];exact loop zp 0 (QS _) (zQ (by omega))
def zFK:List JV:=[[102,114,101,101],[98,97,116,99,104],[112,114,111,100],[109,111,110,105,116,111,114,105,110,103]]
theorem zPM{b:Nat}(h:b<4):∃s,zB6 (ofNat b)=some (.str s)/\zFK[b]?=some s/\zEQ s=some (.int .i64 (ofNat b)):=by
 have hl:b<zFK.length:=h;refine⟨zFK[b],zDF ?_,QD hl,zDF ?_⟩
 .rw[zKB];refine Wc (λh=>by rw[QB]at h;omega) λ_=>zVH zFd (Wc (λg=>by
   have g:ofNat b>=(4:Int):=g;rw[QB]at g;omega) λ_=>zVH zFd ?_)
  exact qk_s (o:=ixN (zFK.map AV.str) (ofNat b)) (zUL hl) (Wb rfl)
 .rw[zRs];refine zVH zFd (zCe (o:=zAT (zFK.map AV.str) zFK[b]) (zYK zFK[b] zFK (by decide) b hl rfl λi hi j=>?_) (Wb rfl))
  have:∀b,b<4->∀i,i<b->zFK[i]?≠zFK[b]?:=by decide
  intro e;exact this b h i j (by rw[QD hi,QD hl,e])
end Go.Proofs.YtjfcepbllmdfcaaGreatDoor.record
namespace Go.Proofs.YtjfcepbllmdfcaaGreatDoor.record
open Go Go.Sy
variable[MX]
abbrev o1(c:Bool)(key v:JV):List JV:=if c=true then[key++(61::v)]else[]
def OKL(m:Nat)(L:List JV):Prop:=L.length<=m/\∀w∈L,w.length<=1100
theorem OKL.put{m:Nat}{L:List JV}(h:OKL m L)(c:Bool){key v:JV}(g:key.length+v.length<=1099):OKL (m+1) (L++o1 c key v):=by
 cases c with
 |false=>simp only[o1];exact⟨by have:=h.1;simp;omega,by simpa using h.2⟩
 |true=>
  simp only[o1];refine⟨by have:=h.1;simp;omega,λw e=>?_⟩
  rcases QJ.1 e with e|e
  .exact h.2 w e
  .have e:w=key++(61::v):=by simpa using e
   subst e;rw[QH,QR];omega
theorem put{β:Type}{P:β->Prop}{f:JE->Option β}{key v:JV}{c:Bool}{L:List JV}{m:Nat}(h:OKL m L)(hm:m<=1000)(l:key.length+v.length<=1099)(q:OKL (m+1) (L++o1 c key v)->Wp (f ((L++o1 c key v).map .str)) P):
  Wp (dD true [.v (.qe 0),.hc 0 false 1,.v (.c (AV.sym 0)),.vec 0 1] (zAQ key v c (L.map .str)) f) P:=by
 have q:=q (h.put c l);refine zUj (x3:=(L++o1 c key v).map .str) ?_ q
 refine zDF ?_
 rw[zPX];cases c with
 |false=>
  refine Wa (λh=>by cases h) λ_=>Wb ?_
  simp[o1]
 |true=>
  have hl:=h.1;have e:∀x:AV,(chunks 1 1 [x]).length=1:=λx=>rfl
  have g:([61]:JV).length=1:=rfl;refine Wa (λ_=>We (by rw[g];show key.length+1<=9223372036854775807;omega) (We (by rw[QH,g];show key.length+1+v.length<=9223372036854775807;omega) (We (zat (k:=16) (by rw[e,QG];omega) (by omega)) (Wb ?_)))) λh=>by cases h
  have j:∀x:JV,chunks 1 1 (List.drop 0 (qn [.str []] 0 (AV.cells (.str x))))=[.str x]:=λx=>rfl
  rw[j,Qu];simp[o1]
theorem zTH:∀W:List JV,strs (W.map .str)=some W
 |[]=>rfl
 |w::r=>by
  have e:=zTH r;show(match strs (r.map .str)with
   |some x=>some (w::x)
   |none=>none)=_
  rw[e]
theorem zNT{B:Nat}:∀{W:List JV},(∀w∈W,w.length<=B)->(zAn [32] W).length<=W.length*(B+1)
 |[],_=>QS _
 |[w],h=>by
  have:=h w (.head _);show(w++[]).length<=_
  simp;omega
 |w::x::r,h=>by
  have l:=zNT (B:=B) (W:=x::r) λy j=>h y (.tail _ j)
  have h1:=h w (.head _);have g:zAn [32] (w::x::r)=w++(32::zAn [32] (x::r)):=by simp[zIV]
  rw[g,QH,QR];have e:(w::x::r).length*(B+1)=(x::r).length*(B+1)+(B+1):=by rw[QR,Nat.succ_mul]
  rw[e];omega
theorem zTI:∀W:List JV,flatten 1 (W.map .str)=some (W.map .str)
 |[]=>rfl
 |w::r=>by
  have e:=zTI r;show(match flatten 1 (r.map .str)with
   |some g=>some ([AV.str w]++g)
   |none=>none)=_
  rw[e];rfl
theorem zbK{W:List JV}(h:OKL 100 W):zLo (W.map .str) [32]=some (.str (zAn [32] W)):=by
 have l:=zNT h.2;have h1:=h.1;have j:W.length*(1100+1)<=100*(1100+1):=Nat.mul_le_mul_right _ h1;show zLK [.qd 1 (W.map .str),.str [32]] []=_
 have hc:content [] 1 (.qd 1 (W.map .str))=some (W.length,W.map .str):=by
  show(match flatten 1 (W.map .str)with
   |some g=>some ((W.map AV.str).length,g)
   |none=>none)=_
  rw[QG,zTI]
 unfold zLK;simp only[show zTR (.qd 1 (W.map .str))=true from rfl,hc,zTH]
 have e:(Nat.ble W.length 140737488355328&&Nat.ble (zAn [32] W).length 140737488355328)=true:=by
  rw[qr];exact⟨Nat.ble_eq_true_of_le (by omega),Nat.ble_eq_true_of_le (by omega)⟩
 rw[e]
theorem zcq:zp=1180591620717411303419+1+1+1+1+1:=zI7
section
variable{k:Int}{n u i_ bs t:JV}{b c d x1 x2 x3 x4 ba:Nat}{r:JE}{L:List JV}
abbrev zLl(W:List JV)(v:AV):Prop:=v=.qe [.str (zAn [32] W),.int .i64 (ofNat 0)]/\OKL 13 W
theorem zUZ(h:OKL 12 L)(vP:ba<100):Wp (zFN k n u (ofNat b) (c:Int) (d:Int) i_ (x1:Int) (x2:Int) (x3:Int) (x4:Int) r (ba:Int) (L.map .str)) (zLl (L++o1 (decide ((ba:Int) > 1)) [98,97,116,99,104] (dec ba))):=by
 rw[zOT];have hl:=zFJ ba (by omega)
 exact qk_s (zPK ba vP) (put h (by omega) (by show 5+_<=_;omega) λh=>qk_s (zbK ⟨by have:=h.1;omega,h.2⟩) (Wb ⟨rfl,h⟩))
def zOJ(rc:Bool)(r:JE)(t:JV):Prop:=(rc=false/\(r=[]\/zB9 r=some (.bool true)))\/(rc=true/\0<r.length/\zB9 r=some (.bool false)/\zLk r t)
theorem zXD{rc:Bool}(h:OKL 11 L)(vP:ba<100)(hr:zOJ rc r t):Wp (br (decide (ofNat (List.length r) > 0)) (dK true [K.b] (zB9 r) λl=>zBS (!l) k n u (ofNat b) (c:Int) (d:Int) i_ (x1:Int) (x2:Int) (x3:Int) (x4:Int) r (ba:Int) (L.map .str)) (zBS false k n u (ofNat b) (c:Int) (d:Int) i_ (x1:Int) (x2:Int) (x3:Int) (x4:Int) r (ba:Int) (L.map .str))) (zLl (L++o1 rc [114,117,108,101] (34::(t++[34]))++o1 (decide ((ba:Int) > 1)) [98,97,116,99,104] (dec ba))):=by
 have no:rc=false->Wp (zBS false k n u (ofNat b) (c:Int) (d:Int) i_ (x1:Int) (x2:Int) (x3:Int) (x4:Int) r (ba:Int) (L.map .str)) (zLl (L++o1 rc [114,117,108,101] (34::(t++[34]))++o1 (decide ((ba:Int) > 1)) [98,97,116,99,104] (dec ba))):=λe=>by
  subst e;rw[zIA];refine Wa (λh=>by cases h) λ_=>?_
  have:=zUZ (k:=k) (n:=n) (u:=u) (b:=b) (c:=c) (d:=d) (i_:=i_) (x1:=x1) (x2:=x2) (x3:=x3) (x4:=x4) (r:=r) (ba:=ba) (L:=L) ⟨by have:=h.1;omega,h.2⟩ vP
  have e:L++o1 false [114,117,108,101] (34::(t++[34]))=L:=by simp[o1]
  rw[e];exact this
 rcases hr with⟨e,rfl|j⟩|⟨e,h0,j,x⟩
 .exact Wc (λh=>by cases h) λ_=>no e
 .exact Wc (λ_=>qk_b j (no e)) λ_=>no e
 .subst e;refine Wc (λ_=>qk_b j ?_) λh=>absurd (by rw[QB];omega) h
  obtain⟨_,_,hl,s,_⟩:=x;show Wp (zBS true k n u (ofNat b) (c:Int) (d:Int) i_ (x1:Int) (x2:Int) (x3:Int) (x4:Int) r (ba:Int) (L.map .str)) _
  rw[zIA];have g:([34]:JV).length=1:=rfl;refine Wa (λ_=>zaj s (We (by rw[g];show 1+t.length<=9223372036854775807;omega) (We (by rw[QH,g];show 1+t.length+1<=9223372036854775807;omega) ?_))) λh=>by cases h
  exact put (key:=[114,117,108,101]) (v:=34::(t++[34])) h (by omega) (by show 4+(34::(t++[34])).length<=_;rw[QR,QH];show 4+(t.length+1+1)<=_;omega) λh=>zUZ h vP
theorem zaI{rc:Bool}(h:OKL 7 L)(vP:ba<100)(h1:x1<=1099511627776)(h2:x2<=1099511627776)(h3:x3<=1099511627776)(h4:x4<=1099511627776)(hr:zOJ rc r t):Wp (zE2 zp (ofNat 4) (ofNat 0) k n u (ofNat b) (c:Int) (d:Int) i_ (x1:Int) (x2:Int) (x3:Int) (x4:Int) r (ba:Int) [.agg [.str [99,112,117],.int .i64 (x1:Int)],.agg [.str [114,97,109],.int .i64 (x2:Int)],.agg [.str [100,105,115,107],.int .i64 (x3:Int)],.agg [.str [112,111,114,116,115],.int .i64 (x4:Int)]] (L.map .str)) (zLl (L++o1 ((x1:Int) != 0) [99,112,117] (dec x1)++o1 ((x2:Int) != 0) [114,97,109] (dec x2)++o1 ((x3:Int) != 0) [100,105,115,107] (dec x3)++o1 ((x4:Int) != 0) [112,111,114,116,115] (dec x4)++o1 rc [114,117,108,101] (34::(t++[34]))++o1 (decide ((ba:Int) > 1)) [98,97,116,99,104] (dec ba))):=by
 rw[zcq];rw[zCb];refine Wc (λ_=>?_) λh=>absurd (by decide:((0:Int))<4) h
 refine We ⟨(by decide:(0:Int)<=0),(by decide:((0:Int))<4)⟩ (zBc (x2:=[99,112,117]) (x3:=(x1:Int)) rfl (qk_s (zOH x1 (by omega)) (put h (by omega) (by have:=zFJ x1 (by omega);show 3+_<=_;omega) λh=>?_)))
 rw[show wrapx .i64 (ofNat 0+1)=ofNat 1 from rfl]
 rw[zCb];refine Wc (λ_=>?_) λh=>absurd (by decide:((1:Int))<4) h
 refine We ⟨(by decide:(0:Int)<=1),(by decide:((1:Int))<4)⟩ (zBc (x2:=[114,97,109]) (x3:=(x2:Int)) rfl (qk_s (zOH x2 (by omega)) (put h (by omega) (by have:=zFJ x2 (by omega);show 3+_<=_;omega) λh=>?_)))
 rw[show wrapx .i64 (ofNat 1+1)=ofNat 2 from rfl]
 rw[zCb];refine Wc (λ_=>?_) λh=>absurd (by decide:((2:Int))<4) h
 refine We ⟨(by decide:(0:Int)<=2),(by decide:((2:Int))<4)⟩ (zBc (x2:=[100,105,115,107]) (x3:=(x3:Int)) rfl (qk_s (zOH x3 (by omega)) (put h (by omega) (by have:=zFJ x3 (by omega);show 4+_<=_;omega) λh=>?_)))
 rw[show wrapx .i64 (ofNat 2+1)=ofNat 3 from rfl]
 rw[zCb];refine Wc (λ_=>?_) λh=>absurd (by decide:((3:Int))<4) h
 refine We ⟨(by decide:(0:Int)<=3),(by decide:((3:Int))<4)⟩ (zBc (x2:=[112,111,114,116,115]) (x3:=(x4:Int)) rfl (qk_s (zOH x4 (by omega)) (put h (by omega) (by have:=zFJ x4 (by omega);show 5+_<=_;omega) λh=>?_)))
 rw[show wrapx .i64 (ofNat 3+1)=ofNat 4 from rfl]
 rw[zCb];refine Wc (λh=>absurd h (by decide:¬((4:Int))<4)) λ_=>?_
 exact zXD h vP hr
theorem zaJ{rc:Bool}(h:OKL 2 L)(hu:u.length<=16)(hi:i_.length<=16)(hb:zB6 (ofNat b)=some (.str bs))(e:bs.length<=16)(hc:c<100)(hd:d<100)(vP:ba<100)(h1:x1<=1099511627776)(h2:x2<=1099511627776)(h3:x3<=1099511627776)(h4:x4<=1099511627776)(hr:zOJ rc r t):Wp (zBT k n u (ofNat b) (c:Int) (d:Int) i_ (x1:Int) (x2:Int) (x3:Int) (x4:Int) r (ba:Int) (L.map .str)) (zLl (L++o1 (!zi u []) [117,115,101,114] u++o1 (ofNat b != 0) [98,97,110,100] bs++o1 (decide ((c:Int) > 1)) [99,111,117,110,116] (dec c)++o1 (decide ((d:Int) > 1)) [100,111,119,110] (dec d)++o1 (!zi i_ []) [105,110] i_++o1 ((x1:Int) != 0) [99,112,117] (dec x1)++o1 ((x2:Int) != 0) [114,97,109] (dec x2)++o1 ((x3:Int) != 0) [100,105,115,107] (dec x3)++o1 ((x4:Int) != 0) [112,111,114,116,115] (dec x4)++o1 rc [114,117,108,101] (34::(t++[34]))++o1 (decide ((ba:Int) > 1)) [98,97,116,99,104] (dec ba))):=by
 rw[zOU];have g:=zFJ c (by omega)
 have j:=zFJ d (by omega)
 exact put h (by omega) (by show 4+_<=_;omega) λh=>qk_s hb (put h (by omega) (by show 4+_<=_;omega) λh=>qk_s (zPK c hc) (put h (by omega) (by show 5+_<=_;omega) λh=>qk_s (zPK d hd) (put h (by omega) (by show 4+_<=_;omega) λh=>put h (by omega) (by show 2+_<=_;omega) λh=>zaI h vP h1 h2 h3 h4 hr)))
end
end Go.Proofs.YtjfcepbllmdfcaaGreatDoor.record
namespace Go.Proofs.YtjfcepbllmdfcaaGreatDoor.record
open Go Go.Sy
variable[MX]
abbrev Ow(u:JV):List JV:=o1 (!zi u []) [117,115,101,114] u
abbrev Ob(b:Nat)(bs:JV):List JV:=o1 (ofNat b != 0) [98,97,110,100] bs
abbrev Oc(c:Nat):List JV:=o1 (decide ((c:Int) > 1)) [99,111,117,110,116] (dec c)
abbrev Od(d:Nat):List JV:=o1 (decide ((d:Int) > 1)) [100,111,119,110] (dec d)
abbrev Oi(i_:JV):List JV:=o1 (!zi i_ []) [105,110] i_
abbrev O6(x:Nat):List JV:=o1 ((x:Int) != 0) [99,112,117] (dec x)
abbrev O7(x:Nat):List JV:=o1 ((x:Int) != 0) [114,97,109] (dec x)
abbrev O8(x:Nat):List JV:=o1 ((x:Int) != 0) [100,105,115,107] (dec x)
abbrev O9(x:Nat):List JV:=o1 ((x:Int) != 0) [112,111,114,116,115] (dec x)
abbrev Or'(rc:Bool)(t:JV):List JV:=o1 rc [114,117,108,101] (34::(t++[34]))
abbrev Oba(ba:Nat):List JV:=o1 (decide ((ba:Int) > 1)) [98,97,116,99,104] (dec ba)
theorem wl{key w:JV}(h:key.length<=10)(e:w.length<=2000):(key++(61::w)).length<=65536:=by
 rw[QH,QR];omega
theorem zJA(n:Nat):∀c∈dec n,c≠34:=λc hc=>by
 have:=((zPJ n).1 c hc).1;omega
theorem zZk{s:JV}(h:zq s=some (.bool true)):∀c∈s,c≠34:=λc hc e=>by
 have:=(zDh h).2.2 c hc;unfold nmC at this;omega
theorem zKp{s:JV}(h:(!zi s [])=false):s=[]:=zP (by simpa using h)
theorem nz{x:Nat}(h:((x:Int) != 0)=true):1<=x:=by
 have h:¬(x:Int)=0:=by simpa using h
 omega
theorem isz{x:Nat}(h:((x:Int) != 0)=false):ofNat 0=(x:Int):=by
 have h:(x:Int)=0:=by simpa using h
 rw[h];rfl
theorem gt1{x:Nat}(h:(decide ((x:Int) > 1))=true):1<=x:=by
 have:=Qi h;omega
section
variable{l0:JE}{us0:List Wd}{k c0 d0 ba0:Int}{n u i_ bs t:JV}{b c d x1 x2 x3 x4 ba:Nat}{r r0:JE}{rc:Bool}
theorem zXE(j:us0.map Prod.fst=Ow u++(Ob b bs++(Oc c++(Od d++(Oi i_++(O6 x1++(O7 x2++(O8 x3++(O9 x4++(Or' rc t++(Oba ba)))))))))))(g:us0.length<=1000)
  (wY:(!zi u [])=true->zc k [117,115,101,114]=some (.bool true)) (wU:(ofNat b != 0)=true->zc k [98,97,110,100]=some (.bool true)) (wG:(decide ((c:Int) > 1))=true->zc k [99,111,117,110,116]=some (.bool true)) (wX:(decide ((d:Int) > 1))=true->zc k [100,111,119,110]=some (.bool true)) (ua:(!zi i_ [])=true->zc k [105,110]=some (.bool true)) (vj:((x1:Int) != 0)=true->zc k [99,112,117]=some (.bool true)) (vo:((x2:Int) != 0)=true->zc k [114,97,109]=some (.bool true)) (wS:((x3:Int) != 0)=true->zc k [100,105,115,107]=some (.bool true)) (wE:((x4:Int) != 0)=true->zc k [112,111,114,116,115]=some (.bool true)) (wT:rc=true->zc k [114,117,108,101]=some (.bool true)) (wF:(decide ((ba:Int) > 1))=true->zc k [98,97,116,99,104]=some (.bool true))
  (hu:(!zi u [])=true->zq u=some (.bool true)) (hi:(!zi i_ [])=true->zq i_=some (.bool true)) (hb:zEQ bs=some (.int .i64 (ofNat b))) (C:∀c∈bs,c≠34) (H:bs.length<=16)
  (hc:c<=100) (hd:d<=100) (vP:ba<=100) (h1:x1<=1099511627776) (h2:x2<=1099511627776) (h3:x3<=1099511627776) (h4:x4<=1099511627776)
  (E:rc=true->t.length<=1024/\zB7 t=some (.qe [.agg [.qd 6 r],.agg [.int .i64 (ofNat 0),.int .i64 (ofNat 0)]]))
  (vM:(decide ((c:Int) > 1))=false->c0=(c:Int)) (uC:(decide ((d:Int) > 1))=false->d0=(d:Int)) (vq:rc=false->r0=r) (vY:(decide ((ba:Int) > 1))=false->ba0=(ba:Int))
  (D:zAk k n u (ofNat b) (c:Int) (d:Int) i_ (x1:Int) (x2:Int) (x3:Int) (x4:Int) r (ba:Int)=some (.int .i64 0)):
  Wp (LN l0 us0 k n [] (ofNat 0) c0 d0 [] (ofNat 0) (ofNat 0) (ofNat 0) (ofNat 0) r0 ba0 zp 0 [] []) λv=>v=.qe [.agg [.int .i64 k,.str n,.str u,.int .i64 (ofNat b),.int .i64 (c:Int),.int .i64 (d:Int),.str i_,.int .i64 (x1:Int),.int .i64 (x2:Int),.int .i64 (x3:Int),.int .i64 (x4:Int),.qd 6 r,.int .i64 (ba:Int)],.agg [.int .i64 0,.int .i64 0]]:=by
 have hl:=congrArg List.length j;rw[QG]at hl;have dl:=λ(n:Nat) (h:n<=1099511627776)=>zFJ n (by omega)
 have K:=dl c (by omega)
 have Q:=dl d (by omega)
 have M:=dl ba (by omega)
 have V:=dl x1 h1;have O:=dl x2 h2;have S:=dl x3 h3;have U:=dl x4 h4;refine opt (F:=λz=>LN l0 us0 k n z (ofNat 0) c0 d0 [] (ofNat 0) (ofNat 0) (ofNat 0) (ofNat 0) r0 ba0) (y1:=u) (key:=[117,115,101,114]) (A:=[]) (B:=Ob b bs++(Oc c++(Od d++(Oi i_++(O6 x1++(O7 x2++(O8 x3++(O9 x4++(Or' rc t++(Oba ba)))))))))) (w:=u) (v:=u) (cond:=(!zi u [])) (L:=[]) (by rw[j];simp only[QK,List.nil_append,Qk]) g (λh=>(zKp h).symm) (λe f i ns v0 p a1 a2 a3 a4 q=>zYw a1 a2 a3 (zBj (by decide) (wl (by decide) (by have:=(zDh (hu e)).2.1;omega)) (zZk (hu e))) a4 (wY e) (zaC (hu e)) q) (by decide) ?_ zp 0 [] [] rfl (zQ (by omega)) λs J=>J
 refine opt (F:=λz=>LN l0 us0 k n u z c0 d0 [] (ofNat 0) (ofNat 0) (ofNat 0) (ofNat 0) r0 ba0) (y1:=(ofNat b)) (key:=[98,97,110,100]) (A:=[]++Ow u) (B:=Oc c++(Od d++(Oi i_++(O6 x1++(O7 x2++(O8 x3++(O9 x4++(Or' rc t++(Oba ba))))))))) (w:=bs) (v:=bs) (cond:=(ofNat b != 0)) (L:=[[117,115,101,114]]) (by rw[j];simp only[QK,List.nil_append,Qk]) g (isz) (λe f i ns v0 p a1 a2 a3 a4 q=>zYx a1 a2 a3 (zBj (by decide) (wl (by decide) (by omega)) C) a4 (wU e) (zaD hb (Qj _)) q) (by decide) ?_
 refine opt (F:=λz=>LN l0 us0 k n u (ofNat b) z d0 [] (ofNat 0) (ofNat 0) (ofNat 0) (ofNat 0) r0 ba0) (y1:=(c:Int)) (key:=[99,111,117,110,116]) (A:=([]++Ow u)++Ob b bs) (B:=Od d++(Oi i_++(O6 x1++(O7 x2++(O8 x3++(O9 x4++(Or' rc t++(Oba ba)))))))) (w:=(dec c)) (v:=(dec c)) (cond:=(decide ((c:Int) > 1))) (L:=[[98,97,110,100],[117,115,101,114]]) (by rw[j];simp only[QK,List.nil_append,Qk]) g (vM) (λe f i ns v0 p a1 a2 a3 a4 q=>zXq a1 a2 a3 (zBj (by decide) (wl (by decide) (by omega)) (zJA _)) a4 (wG e) (zYB (zEd c (gt1 e) (by omega))) q) (by decide) ?_
 refine opt (F:=λz=>LN l0 us0 k n u (ofNat b) (c:Int) z [] (ofNat 0) (ofNat 0) (ofNat 0) (ofNat 0) r0 ba0) (y1:=(d:Int)) (key:=[100,111,119,110]) (A:=(([]++Ow u)++Ob b bs)++Oc c) (B:=Oi i_++(O6 x1++(O7 x2++(O8 x3++(O9 x4++(Or' rc t++(Oba ba))))))) (w:=(dec d)) (v:=(dec d)) (cond:=(decide ((d:Int) > 1))) (L:=[[99,111,117,110,116],[98,97,110,100],[117,115,101,114]]) (by rw[j];simp only[QK,List.nil_append,Qk]) g (uC) (λe f i ns v0 p a1 a2 a3 a4 q=>zYy a1 a2 a3 (zBj (by decide) (wl (by decide) (by omega)) (zJA _)) a4 (wX e) (zaF (zEd d (gt1 e) (by omega))) q) (by decide) ?_
 refine opt (F:=λz=>LN l0 us0 k n u (ofNat b) (c:Int) (d:Int) z (ofNat 0) (ofNat 0) (ofNat 0) (ofNat 0) r0 ba0) (y1:=i_) (key:=[105,110]) (A:=((([]++Ow u)++Ob b bs)++Oc c)++Od d) (B:=O6 x1++(O7 x2++(O8 x3++(O9 x4++(Or' rc t++(Oba ba)))))) (w:=i_) (v:=i_) (cond:=(!zi i_ [])) (L:=[[100,111,119,110],[99,111,117,110,116],[98,97,110,100],[117,115,101,114]]) (by rw[j];simp only[QK,List.nil_append,Qk]) g (λh=>(zKp h).symm) (λe f i ns v0 p a1 a2 a3 a4 q=>zbH a1 a2 a3 (zBj (by decide) (wl (by decide) (by have:=(zDh (hi e)).2.1;omega)) (zZk (hi e))) a4 (ua e) (zcp (hi e)) q) (by decide) ?_
 refine opt (F:=λz=>LN l0 us0 k n u (ofNat b) (c:Int) (d:Int) i_ z (ofNat 0) (ofNat 0) (ofNat 0) r0 ba0) (y1:=(x1:Int)) (key:=[99,112,117]) (A:=(((([]++Ow u)++Ob b bs)++Oc c)++Od d)++Oi i_) (B:=O7 x2++(O8 x3++(O9 x4++(Or' rc t++(Oba ba))))) (w:=(dec x1)) (v:=(dec x1)) (cond:=((x1:Int) != 0)) (L:=[[105,110],[100,111,119,110],[99,111,117,110,116],[98,97,110,100],[117,115,101,114]]) (by rw[j];simp only[QK,List.nil_append,Qk]) g (isz) (λe f i ns v0 p a1 a2 a3 a4 q=>zaA a1 a2 a3 (zBj (by decide) (wl (by decide) (by omega)) (zJA _)) a4 (vj e) (zbI (zEd x1 (nz e) (by omega))) q) (by decide) ?_
 refine opt (F:=λz=>LN l0 us0 k n u (ofNat b) (c:Int) (d:Int) i_ (x1:Int) z (ofNat 0) (ofNat 0) r0 ba0) (y1:=(x2:Int)) (key:=[114,97,109]) (A:=((((([]++Ow u)++Ob b bs)++Oc c)++Od d)++Oi i_)++O6 x1) (B:=O8 x3++(O9 x4++(Or' rc t++(Oba ba)))) (w:=(dec x2)) (v:=(dec x2)) (cond:=((x2:Int) != 0)) (L:=[[99,112,117],[105,110],[100,111,119,110],[99,111,117,110,116],[98,97,110,100],[117,115,101,114]]) (by rw[j];simp only[QK,List.nil_append,Qk]) g (isz) (λe f i ns v0 p a1 a2 a3 a4 q=>zaB a1 a2 a3 (zBj (by decide) (wl (by decide) (by omega)) (zJA _)) a4 (vo e) (zbJ (zEd x2 (nz e) (by omega))) q) (by decide) ?_
 refine opt (F:=λz=>LN l0 us0 k n u (ofNat b) (c:Int) (d:Int) i_ (x1:Int) (x2:Int) z (ofNat 0) r0 ba0) (y1:=(x3:Int)) (key:=[100,105,115,107]) (A:=(((((([]++Ow u)++Ob b bs)++Oc c)++Od d)++Oi i_)++O6 x1)++O7 x2) (B:=O9 x4++(Or' rc t++(Oba ba))) (w:=(dec x3)) (v:=(dec x3)) (cond:=((x3:Int) != 0)) (L:=[[114,97,109],[99,112,117],[105,110],[100,111,119,110],[99,111,117,110,116],[98,97,110,100],[117,115,101,114]]) (by rw[j];simp only[QK,List.nil_append,Qk]) g (isz) (λe f i ns v0 p a1 a2 a3 a4 q=>zYz a1 a2 a3 (zBj (by decide) (wl (by decide) (by omega)) (zJA _)) a4 (wS e) (zaG (zEd x3 (nz e) (by omega))) q) (by decide) ?_
 refine opt (F:=λz=>LN l0 us0 k n u (ofNat b) (c:Int) (d:Int) i_ (x1:Int) (x2:Int) (x3:Int) z r0 ba0) (y1:=(x4:Int)) (key:=[112,111,114,116,115]) (A:=((((((([]++Ow u)++Ob b bs)++Oc c)++Od d)++Oi i_)++O6 x1)++O7 x2)++O8 x3) (B:=Or' rc t++(Oba ba)) (w:=(dec x4)) (v:=(dec x4)) (cond:=((x4:Int) != 0)) (L:=[[100,105,115,107],[114,97,109],[99,112,117],[105,110],[100,111,119,110],[99,111,117,110,116],[98,97,110,100],[117,115,101,114]]) (by rw[j];simp only[QK,List.nil_append,Qk]) g (isz) (λe f i ns v0 p a1 a2 a3 a4 q=>zXr a1 a2 a3 (zBj (by decide) (wl (by decide) (by omega)) (zJA _)) a4 (wE e) (zYD (zEd x4 (nz e) (by omega))) q) (by decide) ?_
 refine opt (F:=λz=>LN l0 us0 k n u (ofNat b) (c:Int) (d:Int) i_ (x1:Int) (x2:Int) (x3:Int) (x4:Int) z ba0) (y1:=r) (key:=[114,117,108,101]) (A:=(((((((([]++Ow u)++Ob b bs)++Oc c)++Od d)++Oi i_)++O6 x1)++O7 x2)++O8 x3)++O9 x4) (B:=Oba ba) (w:=(34::(t++[34]))) (v:=t) (cond:=rc) (L:=[[112,111,114,116,115],[100,105,115,107],[114,97,109],[99,112,117],[105,110],[100,111,119,110],[99,111,117,110,116],[98,97,110,100],[117,115,101,114]]) (by rw[j];simp only[QK,List.nil_append,Qk]) g (vq) (λe f i ns v0 p a1 a2 a3 a4 q=>zYA a1 a2 a3 (zVR (by decide) (wl (w:=34::(t++[34])) (by decide) (by have:=(E e).1;rw[QR,QH];show t.length+1+1<=_;omega))) a4 (wT e) (zaE (E e).2) q) (by decide) ?_
 refine opt (F:=λz=>LN l0 us0 k n u (ofNat b) (c:Int) (d:Int) i_ (x1:Int) (x2:Int) (x3:Int) (x4:Int) r z) (y1:=(ba:Int)) (key:=[98,97,116,99,104]) (A:=((((((((([]++Ow u)++Ob b bs)++Oc c)++Od d)++Oi i_)++O6 x1)++O7 x2)++O8 x3)++O9 x4)++Or' rc t) (B:=[]) (w:=(dec ba)) (v:=(dec ba)) (cond:=(decide ((ba:Int) > 1))) (L:=[[114,117,108,101],[112,111,114,116,115],[100,105,115,107],[114,97,109],[99,112,117],[105,110],[100,111,119,110],[99,111,117,110,116],[98,97,110,100],[117,115,101,114]]) (by rw[j];simp only[QK,List.nil_append,Qk]) g (vY) (λe f i ns v0 p a1 a2 a3 a4 q=>zXs a1 a2 a3 (zBj (by decide) (wl (by decide) (by omega)) (zJA _)) a4 (wF e) (zYC (zEd ba (gt1 e) (by omega))) q) (by decide) ?_
 intro f i ns v0 hi T I;have x:us0.map Prod.fst=(((((((((([]++Ow u)++Ob b bs)++Oc c)++Od d)++Oi i_)++O6 x1)++O7 x2)++O8 x3)++O9 x4)++Or' rc t)++Oba ba:=by rw[j];simp only[QK,List.nil_append]
 have l:=congrArg List.length x;rw[QG]at l;have hi:i=us0.length:=hi.trans l.symm;cases f with
 |zero=>omega
 |succ f=>
  unfold LN;rw[zR];refine Wc (λh=>by rw[QB,QB]at h;omega) λ_=>?_
  exact zCe D (Wa (λh=>by cases h) λ_=>Wb rfl)
end
end Go.Proofs.YtjfcepbllmdfcaaGreatDoor.record
namespace Go.Proofs.YtjfcepbllmdfcaaGreatDoor.record
open Go Go.Sy
variable[MX]
theorem zFp{c:Bool}{key v w:JV}(h:w∈o1 c key v):c=true/\w=key++(61::v):=by
 cases c with
 |false=>simp[o1]at h
 |true=>exact⟨rfl,by simpa[o1]using h⟩
theorem zDA{key v:JV}(e:∀c∈key,okW c)(hv:∀c∈v,okW c):zKn (key++(61::v)):=.inl ⟨by simp,λc hc=>by
 rcases QJ.1 hc with hc|hc
 .exact e c hc
 .rcases QI.1 hc with rfl|hc
  .exact⟨by decide,by decide,by decide,by decide⟩
  .exact hv c hc⟩
theorem zaK{key v:JV}(h0:key≠[])(g:∀c∈key,okW c)(e:61 ∉ key)(hv:okS v):zKn (key++(61::(34::(v++[34])))):=.inr ⟨key,v,by simp,⟨h0,g⟩,e,hv⟩
theorem zBM{l:JV}(h:l.all (λc=>decide (33<=c/\c<=126/\c≠34/\c≠35))=true):∀c∈l,okW c:=λc hc=>by
 have h:decide (33<=c/\c<=126/\c≠34/\c≠35)=true:=QF.1 h c hc;show 33<=c/\c<=126/\c≠34/\c≠35
 exact Qi h
theorem zPN{s:JV}(h:zq s=some (.bool true)):∀c∈s,okW c:=λc hc=>by
 have:=(zDh h).2.2 c hc;unfold nmC at this;unfold okW;omega
theorem zHw(n:Nat):∀c∈dec n,okW c:=λc hc=>by
 have:=(zPJ n).1 c hc;unfold okW;omega
theorem zL5{b:Nat}{s:JV}(h:zFK[b]?=some s):(∀c∈s,okW c)/\s.length<=16:=by
 have e:=QE h;have:∀s∈zFK,s.all (λc=>decide (33<=c/\c<=126/\c≠34/\c≠35))=true/\s.length<=16:=by decide
 exact⟨zBM (this s e).1,(this s e).2⟩
structure Sp(k c0 d0 ba0:Int)(n u i_ bs t kw:JV)(b c d x1 x2 x3 x4 ba:Nat)(r r0:JE)(rc:Bool):Prop where
 nm:zq n=some (.bool true)
 ck:zAk k n u (ofNat b) (c:Int) (d:Int) i_ (x1:Int) (x2:Int) (x3:Int) (x4:Int) r (ba:Int)=some (.int .i64 0)
 wY:(!zi u [])=true->zc k [117,115,101,114]=some (.bool true)
 wU:(ofNat b != 0)=true->zc k [98,97,110,100]=some (.bool true)
 wG:(decide ((c:Int) > 1))=true->zc k [99,111,117,110,116]=some (.bool true)
 wX:(decide ((d:Int) > 1))=true->zc k [100,111,119,110]=some (.bool true)
 ua:(!zi i_ [])=true->zc k [105,110]=some (.bool true)
 vj:((x1:Int) != 0)=true->zc k [99,112,117]=some (.bool true)
 vo:((x2:Int) != 0)=true->zc k [114,97,109]=some (.bool true)
 wS:((x3:Int) != 0)=true->zc k [100,105,115,107]=some (.bool true)
 wE:((x4:Int) != 0)=true->zc k [112,111,114,116,115]=some (.bool true)
 wT:rc=true->zc k [114,117,108,101]=some (.bool true)
 wF:(decide ((ba:Int) > 1))=true->zc k [98,97,116,99,104]=some (.bool true)
 hu:(!zi u [])=true->zq u=some (.bool true)
 hi:(!zi i_ [])=true->zq i_=some (.bool true)
 vJ:zB6 (ofNat b)=some (.str bs)
 qS:zFK[b]?=some bs
 hb:zEQ bs=some (.int .i64 (ofNat b))
 hc:c<100
 hd:d<100
 vP:ba<100
 h1:x1<=1099511627776
 h2:x2<=1099511627776
 h3:x3<=1099511627776
 h4:x4<=1099511627776
 rt:zOJ rc r t
 vM:(decide ((c:Int) > 1))=false->c0=(c:Int)
 uC:(decide ((d:Int) > 1))=false->d0=(d:Int)
 vq:rc=false->r0=r
 vY:(decide ((ba:Int) > 1))=false->ba0=(ba:Int)
 jb:kw≠[]
 u6:∀c∈kw,okW c
 u9:kw.length<=16
 tx:∀P,Wp (zBT k n u (ofNat b) (c:Int) (d:Int) i_ (x1:Int) (x2:Int) (x3:Int) (x4:Int) r (ba:Int) ([kw,n].map .str)) P->Wp (zCD k n u (ofNat b) (c:Int) (d:Int) i_ (x1:Int) (x2:Int) (x3:Int) (x4:Int) r (ba:Int)) P
 li:∀l0 (p:Int),ixN l0 0=some (.agg [.str kw,.int .i64 p])->zGm l0=zDV l0 k [] [] (ofNat 0) c0 d0 [] (ofNat 0) (ofNat 0) (ofNat 0) (ofNat 0) r0 ba0 [] (ofNat 0) [] [] (ofNat 0) (ofNat 0) (ofNat 0) [] (ofNat 0) (ofNat 0) (ofNat 0) (ofNat 0) (ofNat 0) (ofNat 0) (ofNat 0)
section
variable{k c0 d0 ba0:Int}{n u i_ bs t kw:JV}{b c d x1 x2 x3 x4 ba:Nat}{r r0:JE}{rc:Bool}
theorem Sp.uL(S:Sp k c0 d0 ba0 n u i_ bs t kw b c d x1 x2 x3 x4 ba r r0 rc)(h:rc=true):zLk r t:=by
 rcases S.rt with⟨e,_⟩|⟨_,_,_,g⟩
 .rw[h]at e;cases e
 .exact g
theorem Sp.ul(S:Sp k c0 d0 ba0 n u i_ bs t kw b c d x1 x2 x3 x4 ba r r0 rc):u.length<=16:=by
 by_cases h:(!zi u [])=true
 .exact(zDh (S.hu h)).2.1
 .rw[zKp (s:=u) (by simpa using h)];exact QS _
theorem Sp.il(S:Sp k c0 d0 ba0 n u i_ bs t kw b c d x1 x2 x3 x4 ba r r0 rc):i_.length<=16:=by
 by_cases h:(!zi i_ [])=true
 .exact(zDh (S.hi h)).2.1
 .rw[zKp (s:=i_) (by simpa using h)];exact QS _
theorem Sp.wP(S:Sp k c0 d0 ba0 n u i_ bs t kw b c d x1 x2 x3 x4 ba r r0 rc):∀w∈[kw,n]++(Ow u++(Ob b bs++(Oc c++(Od d++(Oi i_++(O6 x1++(O7 x2++(O8 x3++(O9 x4++(Or' rc t++(Oba ba))))))))))),zKn w:=by
 intro w e;simp only[QJ]at e;rcases e with e|e|e|e|e|e|e|e|e|e|e|e
 .rcases QI.1 e with rfl|e
  .exact .inl ⟨S.jb,S.u6⟩
  .rw[QW.1 e];exact .inl ⟨(zDh S.nm).1,zPN S.nm⟩
 .have e:=zFp e;rw[e.2];exact zDA (zBM rfl) (zPN (S.hu e.1))
 .have e:=zFp e;rw[e.2];exact zDA (zBM rfl) ((zL5 S.qS).1)
 .have e:=zFp e;rw[e.2];exact zDA (zBM rfl) (zHw _)
 .have e:=zFp e;rw[e.2];exact zDA (zBM rfl) (zHw _)
 .have e:=zFp e;rw[e.2];exact zDA (zBM rfl) (zPN (S.hi e.1))
 .have e:=zFp e;rw[e.2];exact zDA (zBM rfl) (zHw _)
 .have e:=zFp e;rw[e.2];exact zDA (zBM rfl) (zHw _)
 .have e:=zFp e;rw[e.2];exact zDA (zBM rfl) (zHw _)
 .have e:=zFp e;rw[e.2];exact zDA (zBM rfl) (zHw _)
 .have e:=zFp e;rw[e.2];exact zaK (by decide) (zBM rfl) (by decide) (S.uL e.1).2.1
 .have e:=zFp e;rw[e.2];exact zDA (zBM rfl) (zHw _)
theorem Sp.text(S:Sp k c0 d0 ba0 n u i_ bs t kw b c d x1 x2 x3 x4 ba r r0 rc):Wp (zCD k n u (ofNat b) (c:Int) (d:Int) i_ (x1:Int) (x2:Int) (x3:Int) (x4:Int) r (ba:Int)) (zLl ([kw,n]++(Ow u++(Ob b bs++(Oc c++(Od d++(Oi i_++(O6 x1++(O7 x2++(O8 x3++(O9 x4++(Or' rc t++(Oba ba))))))))))))):=by
 have e:[kw,n]++(Ow u++(Ob b bs++(Oc c++(Od d++(Oi i_++(O6 x1++(O7 x2++(O8 x3++(O9 x4++(Or' rc t++(Oba ba)))))))))))=(((((((((([kw,n]++Ow u)++Ob b bs)++Oc c)++Od d)++Oi i_)++O6 x1)++O7 x2)++O8 x3)++O9 x4)++Or' rc t)++Oba ba:=by simp only[QK]
 rw[e];exact S.tx _ (zaJ (L:=[kw,n]) ⟨QA _,λw g=>by
  rcases QI.1 g with rfl|g
  .have:=S.u9;omega
  .rw[QW.1 g];have:=(zDh S.nm).2.1;omega⟩ S.ul S.il S.vJ (zL5 S.qS).2 S.hc S.hd S.vP S.h1 S.h2 S.h3 S.h4 S.rt)
theorem Sp.line(S:Sp k c0 d0 ba0 n u i_ bs t kw b c d x1 x2 x3 x4 ba r r0 rc){us:List Wd}(e:us.map Prod.fst=[kw,n]++(Ow u++(Ob b bs++(Oc c++(Od d++(Oi i_++(O6 x1++(O7 x2++(O8 x3++(O9 x4++(Or' rc t++(Oba ba))))))))))))(hl:us.length<=1000):zGm (wds 0 us)=some (.qe [.agg [.int .i64 k,.str n,.str u,.int .i64 (ofNat b),.int .i64 (c:Int),.int .i64 (d:Int),.str i_,.int .i64 (x1:Int),.int .i64 (x2:Int),.int .i64 (x3:Int),.int .i64 (x4:Int),.qd 6 r,.int .i64 (ba:Int)],.agg [.int .i64 0,.int .i64 0]]):=by
 have s:us.length=2+(Ow u++(Ob b bs++(Oc c++(Od d++(Oi i_++(O6 x1++(O7 x2++(O8 x3++(O9 x4++(Or' rc t++(Oba ba))))))))))).length:=by
  have:=congrArg List.length e;rw[QG,QH]at this;exact this
 obtain⟨p0,z,_⟩:=zTF (A:=[]) (w:=kw) e;obtain⟨p1,g,_⟩:=zTF (A:=[kw]) (w:=n) e;refine zDF ?_
 rw[S.li _ p0 z,zO4];refine Wc (λ_=>?_) λh=>absurd (by rw[zLj,s,QB];omega) h
 refine zBc g (qk_b S.nm (Wa (λh=>by cases h) λ_=>zBc g ?_))
 rw[zO3,zLj];have l:(if ofNat us.length<2 then ofNat us.length else 2)=ofNat 2:=if_neg (by rw[QB];omega)
 rw[l];have hd:List.drop (Int.toNat (ofNat 2)) (List.take (Int.toNat (ofNat us.length)) (wds 0 us))=wds 0 (us.drop 2):=by
  show List.drop 2 (List.take us.length (wds 0 us))=_
  rw[List.take_of_length_le (by rw[zLj];exact QA _)]
  unfold wds;rw[List.map_drop]
 rw[hd,zLj];refine We ⟨Qj _,Qy.2 (by omega)⟩ ?_
 have x:(us.drop 2).map Prod.fst=Ow u++(Ob b bs++(Oc c++(Od d++(Oi i_++(O6 x1++(O7 x2++(O8 x3++(O9 x4++(Or' rc t++(Oba ba)))))))))):=by
  rw[List.map_drop,e];rfl
 have j:=zL5 S.qS;exact zXE x (by rw[Qm];omega) S.wY S.wU S.wG S.wX S.ua S.vj S.vo S.wS S.wE S.wT S.wF S.hu S.hi S.hb (λc hc=>(j.1 c hc).2.2.1) j.2 (Qd S.hc) (Qd S.hd) (Qd S.vP) S.h1 S.h2 S.h3 S.h4 (λh=>⟨(S.uL h).2.2.1,(S.uL h).2.2.2.2⟩) S.vM S.uC S.vq S.vY S.ck
theorem Sp.back(S:Sp k c0 d0 ba0 n u i_ bs t kw b c d x1 x2 x3 x4 ba r r0 rc):∃x,zCD k n u (ofNat b) (c:Int) (d:Int) i_ (x1:Int) (x2:Int) (x3:Int) (x4:Int) r (ba:Int)=some (.qe [.str x,.int .i64 (ofNat 0)])/\x.length<=65536/\(∀c∈x,okT c)/\ln x=.spec (.agg [.int .i64 k,.str n,.str u,.int .i64 (ofNat b),.int .i64 (c:Int),.int .i64 (d:Int),.str i_,.int .i64 (x1:Int),.int .i64 (x2:Int),.int .i64 (x3:Int),.int .i64 (x4:Int),.qd 6 r,.int .i64 (ba:Int)]):=by
 obtain⟨_,e,rfl,j⟩:=S.text;have s:=zNT j.2;have l:=Nat.mul_le_mul_right (1100+1) j.1;have hl:(zAn [32] ([kw,n]++(Ow u++(Ob b bs++(Oc c++(Od d++(Oi i_++(O6 x1++(O7 x2++(O8 x3++(O9 x4++(Or' rc t++(Oba ba))))))))))))).length<=65536:=by omega
 refine⟨_,e,hl,zUX S.wP,?_⟩
 obtain⟨us,h1,h2⟩:=zXo (by simp) S.wP hl
 have g:us.length<=1000:=by
  have:=congrArg List.length h1;rw[QG]at this;rw[this];have:=j.1;omega
 have h3:=S.line h1 g;unfold ln;rw[h2];cases us with
 |nil=>cases h1
 |cons w ws=>
  show(match zGm (wds 0 (w::ws))with
   |some (.qe [a,.agg [.int _ e,.int _ p]])=>if e=0 then Ln.spec a else Ln.bad p
   |_=>Ln.none)=_
  rw[h3];rfl
end
end Go.Proofs.YtjfcepbllmdfcaaGreatDoor.record
namespace Go.Proofs.YtjfcepbllmdfcaaGreatDoor.record
open Go Go.Sy
variable[MX]
theorem nof{l:JV}(h:(!zi l [])=true)(e:l=[]):False:=by subst e;cases h
theorem dgt{x:Nat}{y:Int}(h:(decide ((x:Int) > 1))=false)(h1:y<=1)(h2:y<=(x:Int))(h3:(x:Int)<=1->(x:Int)<=y):y=(x:Int):=by
 have:=of_decide_eq_false h;omega
section
variable{k:Int}{n:JV}{u:JV}{b:Int}{c:Int}{d:Int}{i_:JV}{x1:Int}{x2:Int}{x3:Int}{x4:Int}{r:JE}{ba:Int}
theorem back(hr:Nds r)(g:zAk k n u b c d i_ x1 x2 x3 x4 r ba=some (.int .i64 0)):∃x,zCD k n u b c d i_ x1 x2 x3 x4 r ba=some (.qe [.str x,.int .i64 (ofNat 0)])/\x.length<=65536/\(∀c∈x,okT c)/\ln x=.spec (.agg [.int .i64 k,.str n,.str u,.int .i64 b,.int .i64 c,.int .i64 d,.str i_,.int .i64 x1,.int .i64 x2,.int .i64 x3,.int .i64 x4,.qd 6 r,.int .i64 ba]):=by
 obtain⟨nm,⟨⟨a1,C⟩,⟨a2,H⟩,⟨a3,D⟩,⟨a4,I⟩⟩,h⟩:=zUn hr g;obtain⟨x1,rfl⟩:=Int.eq_ofNat_of_zero_le a1;obtain⟨x2,rfl⟩:=Int.eq_ofNat_of_zero_le a2;obtain⟨x3,rfl⟩:=Int.eq_ofNat_of_zero_le a3;obtain⟨x4,rfl⟩:=Int.eq_ofNat_of_zero_le a4;rcases h with⟨rfl,hu,⟨q1,z⟩,⟨A,B⟩,⟨F,E⟩,rfl,⟨t,j⟩,hi⟩|⟨rfl,hu,⟨q1,z⟩,⟨A,B⟩,rfl,rfl,rfl,t,j⟩|⟨rfl,rfl,rfl,rfl,rfl,rfl,rfl,q1,z⟩
 .obtain⟨b,rfl⟩:=Int.eq_ofNat_of_zero_le q1;obtain⟨c,rfl⟩:=Int.eq_ofNat_of_zero_le (show 0<=c by omega)
  obtain⟨d,rfl⟩:=Int.eq_ofNat_of_zero_le (show 0<=d by omega)
  obtain⟨bs,vJ,qS,hb⟩:=zPM (b:=b) (by omega)
  obtain⟨y,l,s⟩:=zPL hr;have rt:zOJ (!y) r t:=by
   cases y with
   |true=>exact .inl ⟨rfl,.inr l⟩
   |false=>exact .inr ⟨rfl,j.1,l,j⟩
  have vq:(!y)=false->zQd=r:=λh=>(s (by simpa using h)).symm
  have S:Sp 1 1 1 0 n u i_ bs t [106,111,98] b c d x1 x2 x3 x4 0 r zQd (!y):={
   nm:=nm
   ck:=g
   wY:=λ_=>zXt
   wU:=λ_=>zXu
   wG:=λ_=>zVT
   wX:=λ_=>zXv
   ua:=λ_=>zaH
   vj:=λ_=>zYE
   vo:=λ_=>zYF
   wS:=λ_=>zXw
   wE:=λ_=>zVU
   wT:=λ_=>zXx
   wF:=λh=>by cases h
   hu:=λ_=>hu
   hi:=λh=>hi.elim (λe=>(nof h e).elim) id
   hc:=by omega
   hd:=by omega
   vP:=by decide
   rt:=rt
   vM:=λh=>dgt h (by omega) (by omega) (by omega)
   uC:=λh=>dgt h (by omega) (by omega) (by omega)
   vq:=vq
   vY:=λ_=>rfl
   vJ:=vJ
   qS:=qS
   hb:=hb
   h1:=by omega
   h2:=by omega
   h3:=by omega
   h4:=by omega
   jb:=by decide
   u6:=zBM rfl
   u9:=by decide
   tx:=λP q=>by
    rw[zHF];exact zCe g (Wa (λh=>by cases h) λ_=>Wc (λh=>absurd h (by decide:¬((1:Int)=3))) λ_=>Wc (λh=>absurd h (by decide:¬((1:Int)=2))) λ_=>Wc (λ_=>q) λh=>absurd rfl h)
   li:=λl0 p h=>by
    rw[zHG,h,zRj,zDM];rfl }
  exact S.back
 .obtain⟨b,rfl⟩:=Int.eq_ofNat_of_zero_le q1;obtain⟨c,rfl⟩:=Int.eq_ofNat_of_zero_le (show 0<=c by omega)
  obtain⟨bs,vJ,qS,hb⟩:=zPM (b:=b) (by omega)
  obtain⟨y,l,s⟩:=zPL hr;have rt:zOJ (!y) r t:=by
   cases y with
   |true=>exact .inl ⟨rfl,.inr l⟩
   |false=>exact .inr ⟨rfl,j.1,l,j⟩
  have vq:(!y)=false->zQd=r:=λh=>(s (by simpa using h)).symm
  have S:Sp 2 1 0 0 n u [] bs t [97,108,108,111,99] b c 0 x1 x2 x3 x4 0 r zQd (!y):={
   nm:=nm
   ck:=g
   wY:=λ_=>zXy
   wU:=λ_=>zXz
   wG:=λ_=>zVV
   wX:=λh=>by cases h
   ua:=λh=>by cases h
   vj:=λ_=>zYG
   vo:=λ_=>zYH
   wS:=λ_=>zXA
   wE:=λ_=>zVW
   wT:=λ_=>zXB
   wF:=λh=>by cases h
   hu:=λ_=>hu
   hi:=λh=>by cases h
   hc:=by omega
   hd:=by decide
   vP:=by decide
   rt:=rt
   vM:=λh=>dgt h (by omega) (by omega) (by omega)
   uC:=λ_=>rfl
   vq:=vq
   vY:=λ_=>rfl
   vJ:=vJ
   qS:=qS
   hb:=hb
   h1:=by omega
   h2:=by omega
   h3:=by omega
   h4:=by omega
   jb:=by decide
   u6:=zBM rfl
   u9:=by decide
   tx:=λP q=>by
    rw[zHF];exact zCe g (Wa (λh=>by cases h) λ_=>Wc (λh=>absurd h (by decide:¬((2:Int)=3))) λ_=>Wc (λ_=>q) λh=>absurd rfl h)
   li:=λl0 p h=>by
    rw[zHG,h,zRj,zDM];rfl }
  exact S.back
 .obtain⟨ba,rfl⟩:=Int.eq_ofNat_of_zero_le (show 0<=ba by omega)
  obtain⟨bs,vJ,qS,hb⟩:=zPM (b:=0) (by omega)
  have S:Sp 3 0 0 1 n [] [] bs [] [117,112,100,97,116,101] 0 0 0 x1 x2 x3 x4 ba [] [] false:={
   nm:=nm
   ck:=g
   wY:=λh=>by cases h
   wU:=λh=>by cases h
   wG:=λh=>by cases h
   wX:=λh=>by cases h
   ua:=λh=>by cases h
   vj:=λ_=>zYI
   vo:=λ_=>zYJ
   wS:=λ_=>zXC
   wE:=λ_=>zVX
   wT:=λh=>by cases h
   wF:=λ_=>zVY
   hu:=λh=>by cases h
   hi:=λh=>by cases h
   hc:=by decide
   hd:=by decide
   vP:=by omega
   rt:=.inl ⟨rfl,.inl rfl⟩
   vM:=λ_=>rfl
   uC:=λ_=>rfl
   vq:=λ_=>rfl
   vY:=λh=>dgt h (by omega) (by omega) (by omega)
   vJ:=vJ
   qS:=qS
   hb:=hb
   h1:=by omega
   h2:=by omega
   h3:=by omega
   h4:=by omega
   jb:=by decide
   u6:=zBM rfl
   u9:=by decide
   tx:=λP q=>by
    rw[zHF];exact zCe g (Wa (λh=>by cases h) λ_=>Wc (λ_=>q) λh=>absurd rfl h)
   li:=λl0 p h=>by
    rw[zHG,h,zRj];rfl }
  exact S.back
end
end Go.Proofs.YtjfcepbllmdfcaaGreatDoor.record
namespace Go.Proofs.YtjfcepbllmdfcaaGreatDoor.record
open Go Go.Sy
variable[MX]
section
variable{k:Int}{n:JV}{u:JV}{b:Int}{c:Int}{d:Int}{i_:JV}{x1:Int}{x2:Int}{x3:Int}{x4:Int}{r:JE}{ba:Int}
theorem zXF{o:JF}{G:Prop}(h:Wp o isE)(g:G):Wp o (zz G):=h.mono λ_ _ _=>g
theorem j2S{t:Bool}(hr:NdB r):Wp (zAo t k n u b c d i_ x1 x2 x3 x4 r ba) (zz (Nds r)):=by
 rw[zFw];refine Wa (λj=>?_) λ_=>j1F
 obtain⟨_,e,z,rfl,g⟩:=zHT r hr;refine zCe e (Wa (λh=>?_) λ_=>j1F)
 have N:=(g (by simpa using h)).2
 exact zXF (Wa (λ_=>zX _) λ_=>zAh (zA1 i_) λx _=>Wa (λ_=>zAh (zTA r hr) λx _=>zX _) λ_=>zX _) N
theorem strict(hr:NdB r)(h:zAk k n u b c d i_ x1 x2 x3 x4 r ba=some (.int .i64 0)):Nds r:=by
 refine zVS ?_ h
 have j:∀t,Wp (zBr t k n u b c d i_ x1 x2 x3 x4 r ba) (zz (Nds r)):=λt=>by
  rw[zFx];have g:=λ{t}=>j2S (k:=k) (n:=n) (u:=u) (b:=b) (c:=c) (d:=d) (i_:=i_) (x1:=x1) (x2:=x2) (x3:=x3) (x4:=x4) (ba:=ba) (t:=t) hr
  refine Wa (λ_=>Wa (λ_=>zAh (zA1 u) λx _=>Wa (λ_=>zAh (zBy ..) λx _=>Wa (λ_=>zAh (zBy ..) λx _=>Wa (λ_=>zAh (zBy ..) λx _=>Wa (λ_=>g) λ_=>g) λ_=>g) λ_=>g) λ_=>g) λ_=>g) λ_=>Wa (λ_=>Wa (λ_=>zAh (zA1 u) λx _=>Wa (λ_=>zAh (zBy ..) λx _=>Wa (λ_=>zAh (zBy ..) λx _=>Wa (λ_=>Wa (λ_=>Wa (λ_=>Wa (λ_=>?_) λ_=>j1F) λ_=>j1F) λ_=>j1F) λ_=>j1F) λ_=>j1F) λ_=>j1F) λ_=>j1F) λ_=>Wa (λ_=>?_) λ_=>j1F
  .obtain⟨_,e,z,rfl,s⟩:=zHT r hr;exact zCe e (j1B λh=>(s (by simpa using h)).2)
  .exact Wa (λ_=>Wa (λ_=>Wa (λ_=>Wa (λ_=>Wa (λ_=>Wa (λ_=>Wa (λh=>by
    rw[len0 h];exact zXF (zAh (zBy ..) λx _=>zX _) ⟨λe l=>(by cases l),QS _⟩) λ_=>j1F) λ_=>j1F) λ_=>j1F) λ_=>j1F) λ_=>j1F) λ_=>j1F) λ_=>j1F
 rw[zHk];exact zAh (zA1 n) λx _=>Wa (λ_=>zCe (zFI x1 x2 x3 x4) (Wa (λ_=>j _) λ_=>j _)) λ_=>j _
end
end Go.Proofs.YtjfcepbllmdfcaaGreatDoor.record
namespace Go.Proofs.YtjfcepbllmdfcaaGreatDoor.record
open Go Go.Sy
def uv(x:Nat):JV:=if h:x<128 then[x]else(x % 128+128)::uv (x / 128)
termination_by x
decreasing_by omega
theorem zHU{x:Nat}(h:x<128):uv x=[x]:=by rw[uv,dif_pos h]
theorem zKq{x:Nat}(h:¬x<128):uv x=(x % 128+128)::uv (x / 128):=by rw[uv,dif_neg h]
theorem zLm{a b:Nat}{s t:JV}(h:uv a++s=uv b++t):a=b/\s=t:=by
 induction a using Nat.strongRecOn generalizing b with
 |ind a g=>
  by_cases e:a<128<;>by_cases hb:b<128
  .rw[zHU e,zHU hb]at h;exact⟨(List.cons.inj h).1,(List.cons.inj h).2⟩
  .rw[zHU e,zKq hb]at h;have:=(List.cons.inj h).1;omega
  .rw[zKq e,zHU hb]at h;have:=(List.cons.inj h).1;omega
  .rw[zKq e,zKq hb]at h;have h1:=(List.cons.inj h).1;have ⟨h2,h3⟩:=g (a / 128) (by omega) (List.cons.inj h).2
   exact⟨by omega,h3⟩
theorem zbL(k:Nat):∀x:Nat,x<128 ^ k->0<k->(uv x).length<=k:=by
 induction k with
 |zero=>intro x _ h;omega
 |succ k j=>
  intro x e _;by_cases h:x<128
  .rw[zHU h];simp
  .rw[zKq h,QR];have:0<k:=by
    rcases Nat.eq_zero_or_pos k with rfl|g
    .exact absurd (by simpa using e) h
    .exact g
   have:=j (x / 128) (by rw[Nat.pow_succ]at e;omega) this
   omega
theorem zKr{x:Nat}(h:x<18446744073709551616):(uv x).length<=10:=zbL 10 x (QV h (by decide)) (by decide)
def tv(s:JV):JV:=uv s.length++s
theorem zH3{a b s t:JV}(h:tv a++s=tv b++t):a=b/\s=t:=by
 unfold tv at h;rw[QK,QK]at h;have ⟨h1,h2⟩:=zLm h;exact List.append_inj h2 h1
def uw(x:Int):Nat:=(x % 18446744073709551616).toNat
theorem zVZ(x:Int):uw x<18446744073709551616:=by unfold uw;omega
theorem zbM{a b:Int}(e:-9223372036854775808<=a/\a<=9223372036854775807)(hb:-9223372036854775808<=b/\b<=9223372036854775807)(h:uw a=uw b):a=b:=by unfold uw at h;omega
theorem zNU(n:Nat)(h:n<18446744073709551616):uw (ofNat n)=n:=by unfold uw;rw[QB];omega
theorem zaL{a b:Int}(e:0<=a/\a<18446744073709551616)(hb:0<=b/\b<18446744073709551616)(h:uw a=uw b):a=b:=by unfold uw at h;omega
variable[MX]
abbrev bys(s:JV):JE:=s.map λb=>AV.int .u8 (ofNat b)
abbrev vec1(b:JE):Option (AV×Heap×Vecs):=some (.sym 0,[],[(0,.vec 1 b)])
theorem zHx(s t:JV):bys (s++t)=bys s++bys t:=Qu ..
theorem zcr{n k:Nat}(h:n+k<=70000000000000):(n+k)*1<=ze/\n+k<=ze:=by unfold ze;omega
theorem zEP{β:Type}{n k:Nat}{o:Option β}(h:n+k<=70000000000000):gd (decide ((n+k)*1<=ze/\n+k<=ze)) o=o:=by rw[Ql (zcr h)];rfl
theorem zXG{b:JE}(h0:b≠[])(h:b.length<=60000000000000):zCP b=vec1 b:=by
 have e:(!List.isEmpty b)=true:=by cases b<;>simp_all
 rw[zM1,e];show gd (decide ((0+b.length)*1<=ze/\0+b.length<=ze)) _=_
 rw[zEP (by omega)]
 rfl
theorem low7:∀y:Nat,y<256->(BitVec.toNat (BitVec.ofInt (IntKind.bits IntKind.u8) (ofNat y) ||| BitVec.ofInt (IntKind.bits IntKind.u8) 128))=y % 128+128:=by decide +kernel
theorem zJb(n:Nat):wrapx IntKind.u8 (ofNat n)=ofNat (n % 256):=by
 rw[zJd];simp[IntKind.wrap,IntKind.bits,IntKind.signed]
theorem zJB(x:Int):wrapx IntKind.u64 x=ofNat (uw x):=by
 rw[zJd];simp[IntKind.wrap,IntKind.bits,IntKind.signed];unfold uw;omega
theorem zbN(n:Nat)(h:n<256):IntKind.wrap IntKind.u8 (ofNat n)=ofNat n:=by
 rw[←zJd,zJb,Nat.mod_eq_of_lt h]
theorem zSc(x:Nat):IntKind.wrap IntKind.u8 ↑(BitVec.toNat (BitVec.ofInt (IntKind.bits IntKind.u8) (wrapx IntKind.u8 (ofNat x)) ||| BitVec.ofInt (IntKind.bits IntKind.u8) 128))=ofNat (x % 128+128):=by
 rw[zJb,low7 _ (Nat.mod_lt _ (by decide)),show x % 256 % 128=x % 128 by omega]
 exact zbN _ (by omega)
theorem zXH(x:Nat):Int.fdiv (ofNat x) (2 ^ min (Int.toNat 7) (IntKind.bits IntKind.u64))=ofNat (x / 128):=by
 show Int.fdiv (ofNat x) 128=_
 rw[Int.fdiv_eq_ediv_of_nonneg _ (by decide)]
 rfl
theorem zaM(k:Nat):∀(n x:Nat)(b:JE),x<128 ^ (k+1)->k<n->b.length+k<=60000000000000->zCu n (ofNat x) b=vec1 (b++bys (uv x)):=by
 induction k with
 |zero=>
  intro n x b j s hb;obtain⟨n,rfl⟩:∃m,n=m+1:=⟨n-1,by omega⟩
  have h:x<128:=by simpa using j
  rw[zF3,show decide (ofNat x>=128)=false from Qn (by rw[QB];omega),zW,zEP (by show b.length+1<=_;omega),zHU h,zJb,Nat.mod_eq_of_lt (by omega)]
  rfl
 |succ k l=>
  intro n x b j s hb;obtain⟨n,rfl⟩:∃m,n=m+1:=⟨n-1,by omega⟩
  rw[zF3];by_cases h:x<128
  .rw[show decide (ofNat x>=128)=false from Qn (by rw[QB];omega),zW,zEP (by show b.length+1<=_;omega),zHU h,zJb,Nat.mod_eq_of_lt (by omega)]
   rfl
  .rw[show decide (ofNat x>=128)=true from Ql (by rw[QB];omega),zHv,zEP (by show b.length+1<=_;omega),zXH,zSc,zKq h]
   have g:x / 128<128 ^ (k+1):=by rw[Nat.pow_succ]at j;omega
   have e:=l n (x / 128) (b++bys [x % 128+128]) g (by omega) (by rw[QH];show b.length+1+k<=_;omega)
   rw[show bys ((x % 128+128)::uv (x / 128))=bys [x % 128+128]++bys (uv (x / 128))from rfl,←QK]
   exact e
theorem zQV{b:JE}(h0:b≠[])(h:b.length<=50000000000000)(x:Nat)(hx:x<18446744073709551616):zAc b (ofNat x)=vec1 (b++bys (uv x)):=by
 rw[zMd,zXG h0 (by omega),zGU]
 exact zaM 9 zp x b (QV hx (by decide)) (zQ (by omega)) (by omega)
theorem zQW{b:JE}(h0:b≠[])(h:b.length<=50000000000000)(x:Int):zA4 b x=some (.qd 1 (b++bys (uv (uw x)))):=by
 rw[zQ4,zJB,zQV h0 h _ (zVZ x),zGU]
theorem zbO{b:JE}(h0:b≠[])(h:b.length<=50000000000000)(s:JV)(e:s.length<=65536):zF4 b s=some (.qe [.qd 1 (b++bys (tv s)),.int .i64 (ofNat 0)]):=by
 have hu:(uv s.length).length<=10:=zKr (by omega)
 rw[zMe,show decide (ofNat s.length > 65536)=false from Qn (by rw[QB];omega),zW,zJB,zNU _ (by omega),zQV h0 h _ (by omega),zGU,zEP (by rw[QH,QG,QG];omega),QK,←zHx]
 rfl
theorem zJC{b:JE}(h0:b≠[])(h:b.length<=50000000000000)(s:JV)(e:s.length<=65536):zAj b s=some (.qd 1 (b++bys (tv s))):=by
 rw[zPW,zbO h0 h s e,zYs]
theorem zDi{b:JE}(h0:b≠[])(c:JE):b++c≠[]:=by
 cases b<;>simp_all
theorem zFq{s:JV}(e:s.length<=65536):(tv s).length<=65546:=by
 have hu:(uv s.length).length<=10:=zKr (by omega)
 unfold tv;rw[QH];omega
theorem zHc(x:Int):(uv (uw x)).length<=10:=zKr (zVZ x)
theorem zXI{b:JE}(h0:b≠[])(h:b.length<=40000000000000)(s:JV)(e:s.length<=65536)(x:Int):zBh b s x=some (.qd 1 (b++bys (tv s++uv (uw x)))):=by
 have:=zFq e;rw[zLE,zJC h0 (by omega) s e,zDE,zQW (zDi h0 _) (by rw[QH,QG];omega),zDE,QK,←zHx]
theorem xor_zero(x:Nat)(h:x<18446744073709551616):(BitVec.toNat (BitVec.ofInt (IntKind.bits IntKind.u64) (ofNat x) ^^^ BitVec.ofInt (IntKind.bits IntKind.u64) (ofNat 0)))=x:=by
 show BitVec.toNat (BitVec.ofInt 64 (ofNat x) ^^^ BitVec.ofInt 64 0)=x
 rw[show BitVec.ofInt 64 0=0#64 from rfl,BitVec.xor_zero,BitVec.toNat_ofInt,QB]
 omega
theorem zSE{b:JE}(h0:b≠[])(h:b.length<=50000000000000)(x:Int)(hx:0<=x/\x<=1099511627776):zBR b x=some (.qd 1 (b++bys (uv (2*x.toNat)))):=by
 obtain⟨x,rfl⟩:=Int.eq_ofNat_of_zero_le hx.1;have e1:wrapx IntKind.u64 (wrapx IntKind.u64 (ofNat x)*2 ^ min (Int.toNat 1) (IntKind.bits IntKind.u64))=ofNat (2*x):=by
  rw[zJB,zJB,zNU x (by omega)]
  show ofNat (uw (ofNat x*2))=_
  rw[show ofNat x*2=ofNat (2*x) by rw[QB,QB];omega,zNU _ (by omega)]
 have e2:wrapx IntKind.u64 (Int.fdiv (ofNat x) (2 ^ min (Int.toNat 63) (IntKind.bits IntKind.i64)))=ofNat 0:=by
  show wrapx IntKind.u64 (Int.fdiv (ofNat x) 9223372036854775808)=_
  rw[Int.fdiv_eq_ediv_of_nonneg _ (by decide),show ofNat x / 9223372036854775808=0 from Int.ediv_eq_zero_of_lt (Qj x) (by rw[QB];omega)]
  rfl
 have e3:BitVec.toNat (BitVec.ofInt (IntKind.bits IntKind.u64) (ofNat (2*x)) ^^^ BitVec.ofInt (IntKind.bits IntKind.u64) (ofNat 0)) % Int.natAbs (2 ^ IntKind.bits IntKind.u64)=2*x:=by
  rw[xor_zero _ (by omega)]
  exact Nat.mod_eq_of_lt (show 2*x<18446744073709551616 by omega)
 have e1:wrapx IntKind.u64 (wrapx IntKind.u64 ↑x*2 ^ min (Int.toNat 1) (IntKind.bits IntKind.u64))=ofNat (2*x):=e1;have e2:wrapx IntKind.u64 (Int.fdiv ↑x (2 ^ min (Int.toNat 63) (IntKind.bits IntKind.i64)))=ofNat 0:=e2;rw[zM4,e1,e2,e3,zQV h0 h _ (by omega),zGU]
 rfl
theorem zbP{b:JE}(h0:b≠[])(h:b.length<=50000000000000)(x:Bool):zF5 b x=some (.qd 1 (b++bys [x.toNat])):=by
 rw[zMs,zXG h0 (by omega)]
 cases x
 .rw[zW,zGU,zEP (by show b.length+1<=_;omega)];rfl
 .rw[zHv,zGU,zEP (by show b.length+1<=_;omega)];rfl
structure Rc where
 k:Int
 n:JV
 bd:Int
 a1:Int
 a2:Int
 a3:Int
 a4:Int
 at_:JE
 sk:Int
 sn:JV
 su:JV
 sb:Int
 sc:Int
 sd:Int
 si:JV
 s1:Int
 s2:Int
 s3:Int
 s4:Int
 sr:JE
 qZ:Int
 tj:JV
 ti:Int
 bj:JV
 bi:Int
 m:JV
 qY:JV
 ic:Int
 nu:Int
 cd:Int
 on:Bool
def Rc.cells(r:Rc):JE:=[.int .i64 r.k,.str r.n,.int .i64 r.bd,.int .i64 r.a1,.int .i64 r.a2,.int .i64 r.a3,.int .i64 r.a4,.qd 2 r.at_,.int .i64 r.sk,.str r.sn,.str r.su,.int .i64 r.sb,.int .i64 r.sc,.int .i64 r.sd,.str r.si,.int .i64 r.s1,.int .i64 r.s2,.int .i64 r.s3,.int .i64 r.s4,.qd 6 r.sr,.int .i64 r.qZ,.str r.tj,.int .i64 r.ti,.str r.bj,.int .i64 r.bi,.str r.m,.str r.qY,.int .u64 r.ic,.int .u64 r.nu,.int .i64 r.cd,.bool r.on]
def Rc.av(r:Rc):AV:=.agg r.cells
def atE:AV->JV
 |.agg [.str s,.str t]=>tv s++tv t
 |_=>[]
noncomputable def spT(r:Rc):JV:=match zCD r.sk r.sn r.su r.sb r.sc r.sd r.si r.s1 r.s2 r.s3 r.s4 r.sr r.qZ with
 |some (.qe [.str x,_])=>x
 |_=>[]
noncomputable def zHL(r:Rc):Nat->JV
 |0=>tv r.n
 |1=>uv (uw r.bd)
 |2=>uv (2*r.a1.toNat)++(uv (2*r.a2.toNat)++(uv (2*r.a3.toNat)++uv (2*r.a4.toNat)))
 |3=>uv r.at_.length++r.at_.flatMap atE
 |4=>tv (spT r)
 |5=>tv r.tj++uv (uw r.ti)
 |6=>tv r.bj++uv (uw r.bi)
 |7=>tv r.m
 |8=>tv r.qY
 |9=>uv (uw r.ic)
 |10=>uv (uw r.nu)
 |11=>uv (uw r.cd)
 |_=>[r.on.toNat]
def inA(x:Int):Prop:=0<=x/\x<=1099511627776
def zHo(v:AV):Prop:=∃s t,v=.agg [.str s,.str t]/\s.length<=65536/\t.length<=65536
def fOK(r:Rc):Nat->Prop
 |0=>r.n.length<=65536
 |2=>inA r.a1/\inA r.a2/\inA r.a3/\inA r.a4
 |3=>(∀v∈r.at_,zHo v)/\r.at_.length<=200
 |4=>∃x,zCD r.sk r.sn r.su r.sb r.sc r.sd r.si r.s1 r.s2 r.s3 r.s4 r.sr r.qZ=some (.qe [.str x,.int .i64 (ofNat 0)])/\x.length<=65536
 |5=>r.tj.length<=65536
 |6=>r.bj.length<=65536
 |7=>r.m.length<=65536
 |8=>r.qY.length<=65536
 |9=>0<=r.ic/\r.ic<18446744073709551616
 |10=>0<=r.nu/\r.nu<18446744073709551616
 |_=>True
noncomputable abbrev pu(r:Rc)(b:JE)(f:Nat):Option (AV×Heap×Vecs):=some (.qd 1 (b++bys (zHL r f)),[(0,.cells false r.cells)],[])
theorem zU0{b:JE}(h0:b≠[])(h:b.length<=50000000000000)(x:Int)(hx:0<=x/\x<18446744073709551616):zAc b x=vec1 (b++bys (uv (uw x))):=by
 have e:x=ofNat (uw x):=by unfold uw;rw[QB];omega
 have:=zQV h0 h _ (zVZ x)
 rwa [←e]at this
section
variable{b:JE}(h0:b≠[])(h:b.length<=30000000000000)(r:Rc)
include h0 h
theorem p0(hr:fOK r 0):zCW b r.k r.n r.bd r.a1 r.a2 r.a3 r.a4 r.at_ r.sk r.sn r.su r.sb r.sc r.sd r.si r.s1 r.s2 r.s3 r.s4 r.sr r.qZ r.tj r.ti r.bj r.bi r.m r.qY r.ic r.nu r.cd r.on=pu r b 0:=by
 rw[zKT,zMf];show dK true [K.l 1] (zAj b r.n) _=_
 rw[zJC h0 (by omega) _ hr];rfl
theorem p7(hr:fOK r 7):zCV b r.k r.n r.bd r.a1 r.a2 r.a3 r.a4 r.at_ r.sk r.sn r.su r.sb r.sc r.sd r.si r.s1 r.s2 r.s3 r.s4 r.sr r.qZ r.tj r.ti r.bj r.bi r.m r.qY r.ic r.nu r.cd r.on=pu r b 7:=by
 rw[zKS,zMj];show dK true [K.l 1] (zAj b r.m) _=_
 rw[zJC h0 (by omega) _ hr];rfl
theorem p8(hr:fOK r 8):zEl b r.k r.n r.bd r.a1 r.a2 r.a3 r.a4 r.at_ r.sk r.sn r.su r.sb r.sc r.sd r.si r.s1 r.s2 r.s3 r.s4 r.sr r.qZ r.tj r.ti r.bj r.bi r.m r.qY r.ic r.nu r.cd r.on=pu r b 8:=by
 rw[zM3,zMk];show dK true [K.l 1] (zAj b r.qY) _=_
 rw[zJC h0 (by omega) _ hr];rfl
theorem p1(hr:fOK r 1):zDs b r.k r.n r.bd r.a1 r.a2 r.a3 r.a4 r.at_ r.sk r.sn r.su r.sb r.sc r.sd r.si r.s1 r.s2 r.s3 r.s4 r.sr r.qZ r.tj r.ti r.bj r.bi r.m r.qY r.ic r.nu r.cd r.on=pu r b 1:=by
 rw[zLD,zMg];show dK true [K.l 1] (zA4 b r.bd) _=_
 rw[zQW h0 (by omega)];rfl
theorem p11(hr:fOK r 11):zFa b r.k r.n r.bd r.a1 r.a2 r.a3 r.a4 r.at_ r.sk r.sn r.su r.sb r.sc r.sd r.si r.s1 r.s2 r.s3 r.s4 r.sr r.qZ r.tj r.ti r.bj r.bi r.m r.qY r.ic r.nu r.cd r.on=pu r b 11:=by
 rw[zOk,zMn];show dK true [K.l 1] (zA4 b r.cd) _=_
 rw[zQW h0 (by omega)];rfl
theorem p9(hr:fOK r 9):zC2 b r.k r.n r.bd r.a1 r.a2 r.a3 r.a4 r.at_ r.sk r.sn r.su r.sb r.sc r.sd r.si r.s1 r.s2 r.s3 r.s4 r.sr r.qZ r.tj r.ti r.bj r.bi r.m r.qY r.ic r.nu r.cd r.on=pu r b 9:=by
 rw[zK0,zMl];show dD true [.v (.c (AV.sym 0)),.vec 0 1] (zAc b r.ic) _=_
 rw[zU0 h0 (by omega) _ hr];rfl
theorem p10(hr:fOK r 10):zEq b r.k r.n r.bd r.a1 r.a2 r.a3 r.a4 r.at_ r.sk r.sn r.su r.sb r.sc r.sd r.si r.s1 r.s2 r.s3 r.s4 r.sr r.qZ r.tj r.ti r.bj r.bi r.m r.qY r.ic r.nu r.cd r.on=pu r b 10:=by
 rw[zNa,zMm];show dD true [.v (.c (AV.sym 0)),.vec 0 1] (zAc b r.nu) _=_
 rw[zU0 h0 (by omega) _ hr];rfl
theorem p5(hr:fOK r 5):zC1 b r.k r.n r.bd r.a1 r.a2 r.a3 r.a4 r.at_ r.sk r.sn r.su r.sb r.sc r.sd r.si r.s1 r.s2 r.s3 r.s4 r.sr r.qZ r.tj r.ti r.bj r.bi r.m r.qY r.ic r.nu r.cd r.on=pu r b 5:=by
 rw[zKZ,zMh];show dK true [K.l 1] (zBh b r.tj r.ti) _=_
 rw[zXI h0 (by omega) _ hr];rfl
theorem p6(hr:fOK r 6):zEp b r.k r.n r.bd r.a1 r.a2 r.a3 r.a4 r.at_ r.sk r.sn r.su r.sb r.sc r.sd r.si r.s1 r.s2 r.s3 r.s4 r.sr r.qZ r.tj r.ti r.bj r.bi r.m r.qY r.ic r.nu r.cd r.on=pu r b 6:=by
 rw[zM9,zMi];show dK true [K.l 1] (zBh b r.bj r.bi) _=_
 rw[zXI h0 (by omega) _ hr];rfl
theorem p12(hr:fOK r 12):zDr b r.k r.n r.bd r.a1 r.a2 r.a3 r.a4 r.at_ r.sk r.sn r.su r.sb r.sc r.sd r.si r.s1 r.s2 r.s3 r.s4 r.sr r.qZ r.tj r.ti r.bj r.bi r.m r.qY r.ic r.nu r.cd r.on=pu r b 12:=by
 rw[zLC,zbP h0 (by omega)];rfl
theorem p4(hr:fOK r 4):zEm b r.k r.n r.bd r.a1 r.a2 r.a3 r.a4 r.at_ r.sk r.sn r.su r.sb r.sc r.sd r.si r.s1 r.s2 r.s3 r.s4 r.sr r.qZ r.tj r.ti r.bj r.bi r.m r.qY r.ic r.nu r.cd r.on=pu r b 4:=by
 obtain⟨x,g,hl⟩:=hr;have e:spT r=x:=by unfold spT;rw[g]
 rw[zM5,g,zai,zJC h0 (by omega) x hl,zDE]
 unfold pu zHL;rw[e];rfl
theorem p2(hr:fOK r 2):zCX b r.k r.n r.bd r.a1 r.a2 r.a3 r.a4 r.at_ r.sk r.sn r.su r.sb r.sc r.sd r.si r.s1 r.s2 r.s3 r.s4 r.sr r.qZ r.tj r.ti r.bj r.bi r.m r.qY r.ic r.nu r.cd r.on=pu r b 2:=by
 obtain⟨h1,h2,h3,h4⟩:=hr;have l:∀x:Int,inA x->(uv (2*x.toNat)).length<=10:=λx e=>zKr (by unfold inA at e;omega)
 have g:=l _ h1;have j:=l _ h2;have s:=l _ h3;rw[zKU,zSE h0 (by omega) _ h1,zDE,zSE (zDi h0 _) (by rw[QH,QG];omega) _ h2,zDE,zSE (zDi (zDi h0 _) _) (by simp only[QH,QG];omega) _ h3,zDE,zSE (zDi (zDi (zDi h0 _) _) _) (by simp only[QH,QG];omega) _ h4,zDE,zIX]
 show some (AV.qd 1 _,_,_)=_
 unfold pu zHL;simp only[Qu,QK];rfl
end
theorem zbQ{v:AV}(h:zHo v):(atE v).length<=131092:=by
 obtain⟨s,t,rfl,h1,h2⟩:=h;have:=zFq h1;have:=zFq h2;show(tv s++tv t).length<=_
 rw[QH];omega
theorem zaN{l:JE}(h:∀v∈l,zHo v):(l.flatMap atE).length<=l.length*131092:=by
 induction l with
 |nil=>exact QA _
 |cons a l e=>
  rw[List.flatMap_cons,QH,QR];have:=e λv hv=>h v (.tail _ hv)
  have:=zbQ (h a (.head _));omega
theorem zaO(r:Rc)(l:JE)(hl:∀v∈l,zHo v)(z:l.length<=200):∀(f i:Nat)(b:JE),i<=l.length->l.length-i<f->b≠[]->b.length+(l.length-i)*131092<=30000100000000->zCv f b l (ofNat l.length) (ofNat i) r.k r.n r.bd r.a1 r.a2 r.a3 r.a4 r.at_ r.sk r.sn r.su r.sb r.sc r.sd r.si r.s1 r.s2 r.s3 r.s4 r.sr r.qZ r.tj r.ti r.bj r.bi r.m r.qY r.ic r.nu r.cd r.on=some (.qd 1 (b++bys ((l.drop i).flatMap atE)),[(0,.cells false r.cells)],[]):=by
 intro f
 induction f with
 |zero=>intro i b _ h;omega
 |succ f j=>
  intro i b hi x h0 hb;rw[zJ4];by_cases e:i<l.length
  .obtain⟨s,t,g,h1,h2⟩:=hl _ (Qf e);have A:=zFq h1;have B:=zFq h2;rw[show decide (ofNat i<ofNat l.length)=true from Ql (Int.ofNat_lt.2 e),zHv,(zAO e).trans (congrArg some g),zag,zJC h0 (by omega) _ h1,zDE,zJC (zDi h0 _) (by rw[QH,QG];omega) _ h2,zDE,zo (by omega),j (i+1) _ e (by omega) (zDi (zDi h0 _) _) (by simp only[QH,QG];omega),Qt e,List.flatMap_cons,g]
   show some (AV.qd 1 _,_,_)=some (AV.qd 1 (b++bys ((tv s++tv t)++_)),_,_)
   simp only[Qu,QK]
  .have:i=l.length:=by omega
   subst this;rw[show decide (ofNat l.length<ofNat l.length)=false from Qn (Int.lt_irrefl _),zW,List.drop_length]
   show _=some (AV.qd 1 (b++[]),_,_)
   rw[Qk];rfl
theorem p3{b:JE}(h0:b≠[])(h:b.length<=30000000000000)(r:Rc)(hr:fOK r 3):zDI b r.k r.n r.bd r.a1 r.a2 r.a3 r.a4 r.at_ r.sk r.sn r.su r.sb r.sc r.sd r.si r.s1 r.s2 r.s3 r.s4 r.sr r.qZ r.tj r.ti r.bj r.bi r.m r.qY r.ic r.nu r.cd r.on=pu r b 3:=by
 obtain⟨h1,h2⟩:=hr;have:=zHc (ofNat r.at_.length);rw[zMo,zQW h0 (by omega),zDE,zaO r r.at_ h1 h2 zp 0 _ (QS _) (zQ (by omega)) (zDi h0 _) (by rw[QH,QG];omega),List.drop_zero,zNU _ (by omega),QK,←zHx]
 rfl
theorem zU1(r:Rc)(f:Nat)(h:fOK r f):(zHL r f).length<=27000000:=by
 have l:∀x:Int,inA x->(uv (2*x.toNat)).length<=10:=λx g=>zKr (by unfold inA at g;omega)
 unfold zHL;split<;>unfold fOK at h<;>simp only at h
 .have:=zFq h;omega
 .have:=zHc r.bd;omega
 .have:=l _ h.1;have:=l _ h.2.1;have:=l _ h.2.2.1;have:=l _ h.2.2.2;simp only[QH];omega
 .have:=zaN h.1;have:=zKr (x:=r.at_.length) (by have:=h.2;omega)
  have:=h.2;simp only[QH];omega
 .obtain⟨x,g,hl⟩:=h;have e:spT r=x:=by unfold spT;rw[g]
  rw[e];have:=zFq hl;omega
 .have:=zFq h;have:=zHc r.ti;simp only[QH];omega
 .have:=zFq h;have:=zHc r.bi;simp only[QH];omega
 .have:=zFq h;omega
 .have:=zFq h;omega
 .have:=zHc r.ic;omega
 .have:=zHc r.nu;omega
 .have:=zHc r.cd;omega
 .show 1<=_;omega
end Go.Proofs.YtjfcepbllmdfcaaGreatDoor.record
namespace Go.Proofs.YtjfcepbllmdfcaaGreatDoor.record
open Go Go.Sy
variable[MX]
abbrev kI(l:JV):JE:=l.map λf=>AV.int .i64 (ofNat f)
noncomputable abbrev zK4(r:Rc)(l:JV):JV:=l.flatMap (zHL r)
theorem l23(j:Nat)(t36:JE)(t37 t38:Int)(r:Rc)(l:JV)(hl:∀f∈l,f<=12/\fOK r f)(E:l.length<=13):∀(n i:Nat)(b:JE),i<=l.length->l.length-i<n->b≠[]->b.length+(l.length-i)*27000000<=30000000000000 →
  zr j n b t36 t37 t38 (kI l) (ofNat l.length) (ofNat i) r.k r.n r.bd r.a1 r.a2 r.a3 r.a4 r.at_ r.sk r.sn r.su r.sb r.sc r.sd r.si r.s1 r.s2 r.s3 r.s4 r.sr r.qZ r.tj r.ti r.bj r.bi r.m r.qY r.ic r.nu r.cd r.on=zAi j (b++bys (zK4 r (l.drop i))) t36 t37 (wrapx IntKind.i64 (t38+1)):=by
 intro n
 induction n with
 |zero=>intro i b _ h;omega
 |succ n B=>
  intro i b hi D h0 hb;rw[zK1];by_cases s:i<l.length
  .obtain⟨z,e⟩:=hl _ (Qf s);have A:ixN (kI l) (ofNat i)=some (.int .i64 (ofNat l[i])):=by
    have x:i<(kI l).length:=by rw[QG];exact s
    rw[zAO x,List.getElem_map]
   have C:=zU1 r _ e;have g:zr j n (b++bys (zHL r l[i])) t36 t37 t38 (kI l) (ofNat l.length) (wrapx IntKind.i64 (ofNat i+1)) r.k r.n r.bd r.a1 r.a2 r.a3 r.a4 r.at_ r.sk r.sn r.su r.sb r.sc r.sd r.si r.s1 r.s2 r.s3 r.s4 r.sr r.qZ r.tj r.ti r.bj r.bi r.m r.qY r.ic r.nu r.cd r.on=zAi j (b++bys (zK4 r (l.drop i))) t36 t37 (wrapx IntKind.i64 (t38+1)):=by
    rw[zo (by omega),B (i+1) _ s (by omega) (zDi h0 _) (by simp only[QH,QG];omega),Qt s]
    show _=zAi j (b++bys (zHL r l[i]++zK4 r (l.drop (i+1)))) _ _ _
    rw[zHx,QK]
   rw[show decide (ofNat i<ofNat l.length)=true from Ql (Int.ofNat_lt.2 s),zHv,A,zY7]
   generalize l[i]=f at z e g;have qS:b.length<=30000000000000:=by omega
   rcases(by omega:f=0\/f=1\/f=2\/f=3\/f=4\/f=5\/f=6\/f=7\/f=8\/f=9\/f=10\/f=11\/f=12)with rfl|rfl|rfl|rfl|rfl|rfl|rfl|rfl|rfl|rfl|rfl|rfl|rfl
   .show dD true _ (zCW b r.k r.n r.bd r.a1 r.a2 r.a3 r.a4 r.at_ r.sk r.sn r.su r.sb r.sc r.sd r.si r.s1 r.s2 r.s3 r.s4 r.sr r.qZ r.tj r.ti r.bj r.bi r.m r.qY r.ic r.nu r.cd r.on) _=_
    rw[p0 h0 qS r e];exact g
   .show dD true _ (zDs b r.k r.n r.bd r.a1 r.a2 r.a3 r.a4 r.at_ r.sk r.sn r.su r.sb r.sc r.sd r.si r.s1 r.s2 r.s3 r.s4 r.sr r.qZ r.tj r.ti r.bj r.bi r.m r.qY r.ic r.nu r.cd r.on) _=_
    rw[p1 h0 qS r e];exact g
   .show dD true _ (zCX b r.k r.n r.bd r.a1 r.a2 r.a3 r.a4 r.at_ r.sk r.sn r.su r.sb r.sc r.sd r.si r.s1 r.s2 r.s3 r.s4 r.sr r.qZ r.tj r.ti r.bj r.bi r.m r.qY r.ic r.nu r.cd r.on) _=_
    rw[p2 h0 qS r e];exact g
   .show dD true _ (zDI b r.k r.n r.bd r.a1 r.a2 r.a3 r.a4 r.at_ r.sk r.sn r.su r.sb r.sc r.sd r.si r.s1 r.s2 r.s3 r.s4 r.sr r.qZ r.tj r.ti r.bj r.bi r.m r.qY r.ic r.nu r.cd r.on) _=_
    rw[p3 h0 qS r e];exact g
   .show dD true _ (zEm b r.k r.n r.bd r.a1 r.a2 r.a3 r.a4 r.at_ r.sk r.sn r.su r.sb r.sc r.sd r.si r.s1 r.s2 r.s3 r.s4 r.sr r.qZ r.tj r.ti r.bj r.bi r.m r.qY r.ic r.nu r.cd r.on) _=_
    rw[p4 h0 qS r e];exact g
   .show dD true _ (zC1 b r.k r.n r.bd r.a1 r.a2 r.a3 r.a4 r.at_ r.sk r.sn r.su r.sb r.sc r.sd r.si r.s1 r.s2 r.s3 r.s4 r.sr r.qZ r.tj r.ti r.bj r.bi r.m r.qY r.ic r.nu r.cd r.on) _=_
    rw[p5 h0 qS r e];exact g
   .show dD true _ (zEp b r.k r.n r.bd r.a1 r.a2 r.a3 r.a4 r.at_ r.sk r.sn r.su r.sb r.sc r.sd r.si r.s1 r.s2 r.s3 r.s4 r.sr r.qZ r.tj r.ti r.bj r.bi r.m r.qY r.ic r.nu r.cd r.on) _=_
    rw[p6 h0 qS r e];exact g
   .show dD true _ (zCV b r.k r.n r.bd r.a1 r.a2 r.a3 r.a4 r.at_ r.sk r.sn r.su r.sb r.sc r.sd r.si r.s1 r.s2 r.s3 r.s4 r.sr r.qZ r.tj r.ti r.bj r.bi r.m r.qY r.ic r.nu r.cd r.on) _=_
    rw[p7 h0 qS r e];exact g
   .show dD true _ (zEl b r.k r.n r.bd r.a1 r.a2 r.a3 r.a4 r.at_ r.sk r.sn r.su r.sb r.sc r.sd r.si r.s1 r.s2 r.s3 r.s4 r.sr r.qZ r.tj r.ti r.bj r.bi r.m r.qY r.ic r.nu r.cd r.on) _=_
    rw[p8 h0 qS r e];exact g
   .show dD true _ (zC2 b r.k r.n r.bd r.a1 r.a2 r.a3 r.a4 r.at_ r.sk r.sn r.su r.sb r.sc r.sd r.si r.s1 r.s2 r.s3 r.s4 r.sr r.qZ r.tj r.ti r.bj r.bi r.m r.qY r.ic r.nu r.cd r.on) _=_
    rw[p9 h0 qS r e];exact g
   .show dD true _ (zEq b r.k r.n r.bd r.a1 r.a2 r.a3 r.a4 r.at_ r.sk r.sn r.su r.sb r.sc r.sd r.si r.s1 r.s2 r.s3 r.s4 r.sr r.qZ r.tj r.ti r.bj r.bi r.m r.qY r.ic r.nu r.cd r.on) _=_
    rw[p10 h0 qS r e];exact g
   .show dD true _ (zFa b r.k r.n r.bd r.a1 r.a2 r.a3 r.a4 r.at_ r.sk r.sn r.su r.sb r.sc r.sd r.si r.s1 r.s2 r.s3 r.s4 r.sr r.qZ r.tj r.ti r.bj r.bi r.m r.qY r.ic r.nu r.cd r.on) _=_
    rw[p11 h0 qS r e];exact g
   .show dD true _ (zDr b r.k r.n r.bd r.a1 r.a2 r.a3 r.a4 r.at_ r.sk r.sn r.su r.sb r.sc r.sd r.si r.s1 r.s2 r.s3 r.s4 r.sr r.qZ r.tj r.ti r.bj r.bi r.m r.qY r.ic r.nu r.cd r.on) _=_
    rw[p12 h0 qS r e];exact g
  .have:i=l.length:=by omega
   subst this;rw[show decide (ofNat l.length<ofNat l.length)=false from Qn (Int.lt_irrefl _),zW,List.drop_length]
   show _=zAi j (b++[]) _ _ _
   rw[Qk]
def hasM(k:Int):JV:=if k=1 then[10]else if k=2 then[0,1,2]else if k=3 then[0,2,3]else if k=4 then[0,12]else if k=8 then[0,12]else if k=5 then[4]else if k=6 then[0]else if k=9 then[0]else if k=15 then[0]else if k=7 then[0,2,11]else if k=10 then[5,7,8,9]else if k=11 then[5,6,9,11]else if k=12 then[0,10]else if k=13 then[5,9]else if k=16 then[0,5,9]else if k=14 then[0,5,9,10,11]else[]
def zdn:JV->AV
 |[]=>.qa
 |l=>.qd 1 (kI l)
theorem nbq{k c:Int}(h:¬k=c):(k==c)=false:=by simpa using h
theorem zU2{k:Int}(h1:¬k=1)(h2:¬k=2)(h3:¬k=3)(h4:¬k=4)(h8:¬k=8)(D:¬k=5)(A:¬k=6)(B:¬k=9)(j:¬k=15)(C:¬k=7)(g:¬k=10)(x:¬k=11)(l:¬k=12)(e:¬k=13)(z:¬k=16)(s:¬k=14):hasM k=[]:=by
 unfold hasM;rw[if_neg h1,if_neg h2,if_neg h3,if_neg h4,if_neg h8,if_neg D,if_neg A,if_neg B,if_neg j,if_neg C,if_neg g,if_neg x,if_neg l,if_neg e,if_neg z,if_neg s]
theorem zZl(k:Int):zFr k=some (zdn (hasM k)):=by
 by_cases h1:k=1
 .subst h1;rw[zH];first|rfl|(show zB _ _=_;rw[zw];first|rfl|(show zy _ _=_;rw[zv];rfl))
 by_cases h2:k=2
 .subst h2;rw[zH];first|rfl|(show zB _ _=_;rw[zw];first|rfl|(show zy _ _=_;rw[zv];rfl))
 by_cases h3:k=3
 .subst h3;rw[zH];first|rfl|(show zB _ _=_;rw[zw];first|rfl|(show zy _ _=_;rw[zv];rfl))
 by_cases h4:k=4
 .subst h4;rw[zH];first|rfl|(show zB _ _=_;rw[zw];first|rfl|(show zy _ _=_;rw[zv];rfl))
 by_cases h8:k=8
 .subst h8;rw[zH];first|rfl|(show zB _ _=_;rw[zw];first|rfl|(show zy _ _=_;rw[zv];rfl))
 by_cases D:k=5
 .subst D;rw[zH];first|rfl|(show zB _ _=_;rw[zw];first|rfl|(show zy _ _=_;rw[zv];rfl))
 by_cases A:k=6
 .subst A;rw[zH];first|rfl|(show zB _ _=_;rw[zw];first|rfl|(show zy _ _=_;rw[zv];rfl))
 by_cases B:k=9
 .subst B;rw[zH];first|rfl|(show zB _ _=_;rw[zw];first|rfl|(show zy _ _=_;rw[zv];rfl))
 by_cases j:k=15
 .subst j;rw[zH];first|rfl|(show zB _ _=_;rw[zw];first|rfl|(show zy _ _=_;rw[zv];rfl))
 by_cases C:k=7
 .subst C;rw[zH];first|rfl|(show zB _ _=_;rw[zw];first|rfl|(show zy _ _=_;rw[zv];rfl))
 by_cases g:k=10
 .subst g;rw[zH];first|rfl|(show zB _ _=_;rw[zw];first|rfl|(show zy _ _=_;rw[zv];rfl))
 by_cases x:k=11
 .subst x;rw[zH];first|rfl|(show zB _ _=_;rw[zw];first|rfl|(show zy _ _=_;rw[zv];rfl))
 by_cases l:k=12
 .subst l;rw[zH];first|rfl|(show zB _ _=_;rw[zw];first|rfl|(show zy _ _=_;rw[zv];rfl))
 by_cases e:k=13
 .subst e;rw[zH];first|rfl|(show zB _ _=_;rw[zw];first|rfl|(show zy _ _=_;rw[zv];rfl))
 by_cases z:k=16
 .subst z;rw[zH];first|rfl|(show zB _ _=_;rw[zw];first|rfl|(show zy _ _=_;rw[zv];rfl))
 by_cases s:k=14
 .subst s;rw[zH];first|rfl|(show zB _ _=_;rw[zw];first|rfl|(show zy _ _=_;rw[zv];rfl))
 rw[zU2 h1 h2 h3 h4 h8 D A B j C g x l e z s,zH,nbq h1,zW,nbq h2,zW,nbq h3,zW,nbq h4,zW,nbq h8,zw,zW,nbq D,zW,nbq A,zW,nbq B,zW,nbq j,zv,zW,nbq C,zW,nbq g,zW,nbq x,zW,nbq l,zW,nbq e,zW,nbq z,zW,nbq s,zW];rfl
theorem zNV(k:Int):(∀f∈hasM k,f<=12)/\(hasM k).length<=13:=by
 by_cases h1:k=1
 .subst h1;decide
 by_cases h2:k=2
 .subst h2;decide
 by_cases h3:k=3
 .subst h3;decide
 by_cases h4:k=4
 .subst h4;decide
 by_cases h8:k=8
 .subst h8;decide
 by_cases B:k=5
 .subst B;decide
 by_cases C:k=6
 .subst C;decide
 by_cases D:k=9
 .subst D;decide
 by_cases s:k=15
 .subst s;decide
 by_cases A:k=7
 .subst A;decide
 by_cases j:k=10
 .subst j;decide
 by_cases x:k=11
 .subst x;decide
 by_cases l:k=12
 .subst l;decide
 by_cases e:k=13
 .subst e;decide
 by_cases z:k=16
 .subst z;decide
 by_cases g:k=14
 .subst g;decide
 rw[zU2 h1 h2 h3 h4 h8 B C D s A j x l e z g];decide
theorem zXJ{k:Int}(h:hasM k≠[]):zFr k=some (.qd 1 (kI (hasM k))):=by
 rw[zZl];cases e:hasM k with
 |nil=>exact absurd e h
 |cons a l=>rfl
def zSF(r:Rc):Prop:=hasM r.k≠[]/\∀f∈hasM r.k,fOK r f
noncomputable def zIl(r:Rc):JV:=uv (uw r.k)++zK4 r (hasM r.k)
theorem zYL(r:Rc)(l:JV)(h:∀f∈l,fOK r f):(zK4 r l).length<=l.length*27000000:=by
 induction l with
 |nil=>exact QA _
 |cons a l e=>
  have:=e λv hv=>h v (.tail _ hv)
  have:=zU1 r a (h a (.head _));show(zHL r a++zK4 r l).length<=_
  rw[QH,QR];omega
theorem zTJ{r:Rc}(h:zSF r):(zIl r).length<=400000000:=by
 have:=zYL r _ h.2;have:=(zNV r.k).2;have:=zHc r.k;unfold zIl;rw[QH];omega
noncomputable abbrev zEu(l:List Rc):JV:=l.flatMap zIl
theorem l25(g:List Rc)(hl:∀r∈g,zSF r)(E:g.length<=600):∀(n i:Nat)(b:JE),i<=g.length->g.length-i<n->b≠[]->b.length+(g.length-i)*400000000<=20000000000000 →
  zAi n b (g.map Rc.av) (ofNat g.length) (ofNat i)=some (.qe [.qd 1 (b++bys (zEu (g.drop i))),.int .i64 (ofNat 0)]):=by
 intro n
 induction n with
 |zero=>intro i b _ h;omega
 |succ n D=>
  intro i b hi z h0 hb;rw[zK2];by_cases j:i<g.length
  .have hr:=hl _ (Qf j);have B:ixN (g.map Rc.av) (ofNat i)=some g[i].av:=by
    have s:i<(g.map Rc.av).length:=by rw[QG];exact j
    rw[zAO s,List.getElem_map]
   have A:=zTJ hr;have x:=D (i+1) (b++bys (zIl g[i])) j (by omega) (zDi h0 _) (by simp only[QH,QG];omega)
   have C:zEu (g.drop i)=zIl g[i]++zEu (g.drop (i+1)):=by rw[Qt j];rfl
   rw[show decide (ofNat i<ofNat g.length)=true from Ql (Int.ofNat_lt.2 j),zHv,B,C]
   generalize g[i]=r at hr A x;show dK true [K.l 1] (zA4 b r.k) _=_
   have:=zHc r.k;have h2:=zNV r.k;rw[zQW h0 (by omega),zDE,zXJ hr.1,zDE]
   have e:=l23 n (g.map Rc.av) (ofNat g.length) (ofNat i) r (hasM r.k) (λf z=>⟨h2.1 f z,hr.2 f z⟩) h2.2 zp 0 (b++bys (uv (uw r.k))) (QS _) (zQ (by omega)) (zDi h0 _) (by simp only[QH,QG];omega)
   rw[List.drop_zero,zo (by omega),QK,←zHx]at e
   have e2:ofNat (kI (hasM r.k)).length=ofNat (hasM r.k).length:=by rw[QG]
   rw[e2];refine e.trans ?_
   refine x.trans ?_
   rw[zHx (zIl r),QK]
  .have:i=g.length:=by omega
   subst this;rw[show decide (ofNat g.length<ofNat g.length)=false from Qn (Int.lt_irrefl _),zW,List.drop_length]
   show _=some (AV.qe [AV.qd 1 (b++[]),_])
   rw[Qk]
abbrev zRC(m:Nat)(s:JV)(v:AV):Prop:=∃b,v=.bool b/\(b=true->s.length<=m)
theorem zYM(c:Nat):Wp (zCm (ofNat c)) isB:=(zHS c).mono λv ⟨b,e,_⟩=>⟨b,e,trivial⟩
theorem zUo(s:JV):Wp (zH7 s) (zRC 24 s):=by
 have loop:∀(n i:Nat),i<=s.length->s.length-i<n->s.length<=24->Wp (zEe n (ofNat (bytes s).length) (ofNat i) (bytes s)) (zRC 24 s):=by
  intro n
  induction n with
  |zero=>intro i _ h;omega
  |succ n l=>
   intro i hi x g;rw[zMR,QG];refine Wp.lt (λh=>zIR h (zQa (zNL h) ?_)) λ_=>Wb ⟨_,rfl,λ_=>g⟩
   have next:∀b,Wp (zA7 n (ofNat s.length) (ofNat i) b (bytes s)) (zRC 24 s):=λb=>by
    rw[zMQ];refine Wa (λ_=>Wb ⟨_,rfl,λ_=>g⟩) λ_=>?_
    rw[zo (by omega)]
    have:=l (i+1) h (by omega) g
    rwa [QG]at this
   repeat' first|refine Wc (λ_=>?_) (λ_=>?_)|refine Wa (λ_=>?_) (λ_=>?_)|refine qk_b (zIT _) ?_|exact next _
 rw[zPO];have e:∀b,(b=true\/s.length<=24)->Wp (zBO s b) (zRC 24 s):=λb hb=>by
  rw[zMT];refine Wa (λ_=>Wb ⟨_,rfl,λh=>by cases h⟩) λh=>?_
  rw[zMS];refine loop _ 0 (QS _) (zQ ?_) ?_<;>rcases hb with hb|hb<;>first|omega|(rw[hb]at h;cases h)
 refine Wc (λ_=>e _ (.inl rfl)) λh1=>Wc (λ_=>e _ (.inl rfl)) λh2=>?_
 rw[QB]at h1 h2;have hl:0<s.length:=by omega
 have j:ixN s 0=some s[0]:=zAO hl;rw[j];refine Wc (λ_=>e _ (.inl rfl)) λh1=>e _ (.inr (by omega))
theorem zUp(s:JV):Wp (zH8 s) (zRC 32 s):=by
 have loop:∀(n i:Nat),i<=s.length->s.length-i<n->s.length<=32->Wp (zEf n (ofNat (bytes s).length) (ofNat i) (bytes s)) (zRC 32 s):=by
  intro n
  induction n with
  |zero=>intro i _ h;omega
  |succ n g=>
   intro i hi j e;rw[zMU,QG];refine Wp.lt (λh=>zIR h (zQa (zNL h) (zAh (zYM _) λb _=>Wa (λ_=>Wb ⟨_,rfl,λ_=>e⟩) λ_=>?_))) λ_=>Wb ⟨_,rfl,λ_=>e⟩
   rw[zo (by omega)]
   have:=g (i+1) h (by omega) e
   rwa [QG]at this
 rw[zPR];refine Wc (λ_=>Wb ⟨_,rfl,λh=>by cases h⟩) λh1=>Wc (λ_=>Wb ⟨_,rfl,λh=>by cases h⟩) λh2=>?_
 rw[QB]at h1 h2;rw[zMV];exact loop _ 0 (QS _) (zQ (by omega)) (by omega)
abbrev isA(es:JE)(v:AV):Prop:=∃n,v=.int .i64 n/\(n=0->∀e∈es,zHo e)
theorem zV0(es:JE)(h:Ats es):Wp (zHd es) (isA es):=by
 have bad:isA es (.int .i64 (ofNat 2)):=⟨_,rfl,λh=>by cases h⟩
 have loop:∀(n i:Nat),i<=es.length->es.length-i<n->(∀j (l:j<es.length),j<i->zHo es[j])->Wp (zEZ n es es (ofNat es.length) (ofNat i)) (isA es):=by
  intro n
  induction n with
  |zero=>intro i _ h;omega
  |succ n E=>
   intro i hi H B;rw[zN0];have x:∀b,(b=true\/∀h:i<es.length,zHo es[i])->i<es.length->Wp (zCg n es es (ofNat es.length) (ofNat i) b) (isA es):=λb hb g=>by
    rw[zNZ];refine Wa (λ_=>Wb bad) λA=>?_
    rw[zo (by have:=h.2;omega)]
    refine E (i+1) g (by omega) λj l D=>?_
    rcases Nat.lt_or_ge j i with q|q
    .exact B j l q
    .obtain rfl:j=i:=by omega
     rcases hb with hb|hb
     .rw[hb]at A;cases A
     .exact hb l
   refine Wp.lt (λg=>h.at g λs t z=>zAh (zUo s) λb hb=>Wa (λ_=>x _ (.inl rfl) g) λh1=>zAh (zUp t) λF qS=>Wa (λ_=>x _ (.inl rfl) g) λh2=>?_) λC=>Wb ⟨_,rfl,λ_ e z=>?_⟩
   .have ok:∀h:i<es.length,zHo es[i]:=λ_=>⟨s,t,z,by have:=hb (by simpa using h1);omega,by have:=qS (by simpa using h2);omega⟩
    refine Wc (λh0=>?_) λ_=>x _ (.inr ok) g
    rw[QB]at h0;have h0:0<i:=by omega
    rw[zFH h0 (by have:=h.2;omega)]
    exact h.at (by omega) λs2 t2 _=>x _ (.inr ok) g
   .obtain⟨j,l,rfl⟩:=List.getElem_of_mem z;exact B j l (by omega)
 rw[zQ1];exact Wc (λ_=>Wb bad) λ_=>loop _ 0 (QS _) (zQ (by have:=h.2;omega)) λj _ h=>absurd h (Nat.not_lt_zero _)
theorem zQX(s:JV)(i:Int):Wp (zHf s i) zdm:=by
 rw[zQ3];obtain⟨_,e,b,rfl,_⟩:=zA1 s;refine qk_b e (Wa (λ_=>Wb ⟨_,_,rfl,trivial⟩) λhb=>Wc (λ_=>Wb ⟨_,_,rfl,trivial⟩) λh0=>Wc (λ_=>Wb ⟨_,_,rfl,trivial⟩) λh1=>?_)
 have hl:=zTv (show zq s=some (.bool true) by rw[e];simpa using hb)
 obtain⟨i,rfl⟩:=Int.eq_ofNat_of_zero_le (show 0<=i by omega)
 have hi:i<100:=by omega
 have e3:zCF (ofNat i)=some (.str (zP8 i)):=by
  show(match Nat.blt i 100 with|true=>some (AV.str (zP8 i))|false=>none)=_
  rw[show Nat.blt i 100=true by rw[Qg];exact hi]
 have hd:(zP8 i).length<=100:=by
  have:∀i,i<100->(zP8 i).length<=100:=by decide +kernel
  exact this i hi
 rw[zN3];have m0:zh=9223372036854775807:=rfl;refine We ?_ (qk_s e3 (We ?_ (Wb ⟨_,_,rfl,trivial⟩)))
 all_goals simp only[QH,QR,Qo]
 all_goals omega
theorem zTK(s:JV)(i:Int):Wp (zCi s i) isB:=by
 rw[zN4];exact zUR (R:=λ_ _=>True) ((zQX s i).mono λv ⟨a,b,e,_⟩=>⟨a,b,e,trivial⟩) λ_ _ _=>Wb ⟨_,rfl,trivial⟩
theorem zYN(s:JV)(h:s.length<=1000):∃n v b,zHz s=some (.qe [.int .i64 n,v])/\zV6 v=some b:=by
 have e:Nat.ble s.length 281474976710656=true:=by rw[Qq];omega
 unfold zHz zGC zWb;simp only[e];cases hp:Lib.atoiAll (s.map UInt8.ofNat)with
 |ok v=>exact⟨_,_,_,rfl,rfl⟩
 |range=>exact⟨_,_,_,rfl,rfl⟩
 |_=>exact⟨_,_,_,rfl,rfl⟩
theorem zXK(s:JV)(h:s.length<=1000):Wp (zDH s) λv=>∃a b n,v=.qe [.agg [.str a,.int .i64 b],.int .i64 n]:=by
 rw[zMb];have hc:∃a b c,zGw s [46]=some (.qe [.str a,.str b,.bool c])/\b.length<=s.length:=by
  refine⟨(cut1 46 s).1,(cut1 46 s).2.1,(cut1 46 s).2.2,?_,(zTB 46 s).2⟩
  show(match(Nat.blt s.length 4294967281&&Nat.blt 46 256)with|true=>some (AV.qe [.str (cut1 46 s).1,.str (cut1 46 s).2.1,.bool (cut1 46 s).2.2])|false=>none)=_
  rw[show Nat.blt s.length 4294967281=true by rw[Qg];omega]
  rfl
 obtain⟨a,b,c,e,h2⟩:=hc;obtain⟨n,v,x,e2,e3⟩:=zYN b (by omega)
 refine zBo e (zUP e2 (zUR (R:=λ_ _=>True) ((zQX a n).mono λv ⟨a,b,e,_⟩=>⟨a,b,e,trivial⟩) λs2 g _=>?_))
 rw[e3];exact Wa (λ_=>Wb ⟨_,_,_,rfl⟩) λ_=>Wa (λ_=>Wb ⟨_,_,_,rfl⟩) λ_=>Wa (λ_=>Wb ⟨_,_,_,rfl⟩) λ_=>Wb ⟨_,_,_,rfl⟩
def i64(x:Int):Prop:=-9223372036854775808<=x/\x<=9223372036854775807
def u64(x:Int):Prop:=0<=x/\x<18446744073709551616
structure Ty(r:Rc):Prop where
 k:i64 r.k
 bd:i64 r.bd
 ti:i64 r.ti
 bi:i64 r.bi
 cd:i64 r.cd
 ic:u64 r.ic
 nu:u64 r.nu
 n:r.n.length<=200
 m:r.m.length<=200
 qY:r.qY.length<=200
 tj:r.tj.length<=200
 bj:r.bj.length<=200
 at_:Ats r.at_
 al:r.at_.length<=200
 sr:NdB r.sr
def zF(r:Rc):Nat->Prop
 |0=>r.n=[]
 |1=>r.bd=0
 |2=>r.a1=0/\r.a2=0/\r.a3=0/\r.a4=0
 |3=>r.at_=[]
 |4=>r.sk=0/\r.sn=[]/\r.su=[]/\r.sb=0/\r.sc=0/\r.sd=0/\r.si=[]/\(r.s1=0/\r.s2=0/\r.s3=0/\r.s4=0)/\r.sr=[]/\r.qZ=0
 |5=>r.tj=[]/\r.ti=0
 |6=>r.bj=[]/\r.bi=0
 |7=>r.m=[]
 |8=>r.qY=[]
 |9=>r.ic=0
 |10=>r.nu=0
 |11=>r.cd=0
 |_=>r.on=false
def kF(r:Rc):Nat->Prop
 |2=>okA r.a1 r.a2 r.a3 r.a4
 |3=>∀e∈r.at_,zHo e
 |4=>zAk r.sk r.sn r.su r.sb r.sc r.sd r.si r.s1 r.s2 r.s3 r.s4 r.sr r.qZ=some (.int .i64 0)
 |_=>True
abbrev isQ(P:Prop)(v:AV):Prop:=∃b,v=.bool b/\(b=true->P)
theorem i0{x:Int}(h:(x==0)=true):x=0:=by simpa using h
theorem zbR(r:Rc):Wp (zEY r.sk r.sn r.su r.sb r.sc r.sd r.si r.s1 r.s2 r.s3 r.s4 r.sr r.qZ) (isQ (zF r 4)):=by
 rw[zNY];have no:Wp (some (AV.bool false)) (isQ (zF r 4)):=Wb ⟨_,rfl,λh=>by cases h⟩
 refine Wa (λh1=>Wa (λh2=>Wa (λh3=>Wa (λh4=>Wa (λs=>Wa (λg=>Wa (λl=>Wa (λh8=>Wa (λj=>Wb ⟨_,rfl,λe=>?_⟩) λ_=>no) λ_=>no) λ_=>no) λ_=>no) λ_=>no) λ_=>no) λ_=>no) λ_=>no) λ_=>no
 simp only[qr]at h8;exact⟨i0 h1,zP h2,zP h3,i0 h4,i0 s,i0 g,zP l,⟨i0 h8.1,i0 h8.2.1,i0 h8.2.2.1,i0 h8.2.2.2⟩,len0 j,i0 e⟩
theorem zaP(r:Rc)(f:Nat)(e:f<=12):Wp (zHy r.k r.n r.bd r.a1 r.a2 r.a3 r.a4 r.at_ r.sk r.sn r.su r.sb r.sc r.sd r.si r.s1 r.s2 r.s3 r.s4 r.sr r.qZ r.tj r.ti r.bj r.bi r.m r.qY r.ic r.nu r.cd r.on (ofNat f)) (isQ (zF r f)):=by
 rw[zOQ];rcases(by omega:f=0\/f=1\/f=2\/f=3\/f=4\/f=5\/f=6\/f=7\/f=8\/f=9\/f=10\/f=11\/f=12)with rfl|rfl|rfl|rfl|rfl|rfl|rfl|rfl|rfl|rfl|rfl|rfl|rfl
 .show Wp (some (AV.bool (zi r.n []))) _
  exact Wb ⟨_,rfl,λh=>zP h⟩
 .show Wp (some (AV.bool (r.bd==0))) _
  exact Wb ⟨_,rfl,λh=>i0 h⟩
 .show Wp (some (AV.bool (r.a1==0&&(r.a2==0&&(r.a3==0&&r.a4==0))))) _
  exact Wb ⟨_,rfl,λh=>by simp only[qr]at h;exact⟨i0 h.1,i0 h.2.1,i0 h.2.2.1,i0 h.2.2.2⟩⟩
 .show Wp (some (AV.bool (ofNat r.at_.length==0))) _
  exact Wb ⟨_,rfl,λh=>len0 h⟩
 .show Wp (dK true [K.b] (zEY r.sk r.sn r.su r.sb r.sc r.sd r.si r.s1 r.s2 r.s3 r.s4 r.sr r.qZ) λb=>some (AV.bool b)) _
  exact zAh (R:=λb=>b=true->zF r 4) (zbR r) λb hb=>Wb ⟨_,rfl,hb⟩
 .show Wp (some (AV.bool (zi r.tj []&&r.ti==0))) _
  exact Wb ⟨_,rfl,λh=>by simp only[qr]at h;exact⟨zP h.1,i0 h.2⟩⟩
 .show Wp (some (AV.bool (zi r.bj []&&r.bi==0))) _
  exact Wb ⟨_,rfl,λh=>by simp only[qr]at h;exact⟨zP h.1,i0 h.2⟩⟩
 .show Wp (some (AV.bool (zi r.m []))) _
  exact Wb ⟨_,rfl,λh=>zP h⟩
 .show Wp (some (AV.bool (zi r.qY []))) _
  exact Wb ⟨_,rfl,λh=>zP h⟩
 .show Wp (some (AV.bool (r.ic==0))) _
  exact Wb ⟨_,rfl,λh=>i0 h⟩
 .show Wp (some (AV.bool (r.nu==0))) _
  exact Wb ⟨_,rfl,λh=>i0 h⟩
 .show Wp (some (AV.bool (r.cd==0))) _
  exact Wb ⟨_,rfl,λh=>i0 h⟩
 .show Wp (some (AV.bool (!r.on))) _
  exact Wb ⟨_,rfl,λh=>(show r.on=false by simpa using h)⟩
theorem zaQ(r:Rc):Wp (zFM r.k r.n r.bd r.a1 r.a2 r.a3 r.a4 r.at_ r.sk r.sn r.su r.sb r.sc r.sd r.si r.s1 r.s2 r.s3 r.s4 r.sr r.qZ r.tj r.ti r.bj r.bi r.m r.qY r.ic r.nu r.cd r.on) isB:=by
 rw[zOR]
 repeat' first|exact Wb ⟨_,rfl,trivial⟩|refine Wa (λ_=>?_) (λ_=>?_)
theorem zaR(b:Int):Wp (zB6 b) λv=>∃s,v=.str s/\True:=by
 rw[zKB];refine Wc (λ_=>Wb ⟨_,rfl,trivial⟩) λh=>?_
 obtain⟨b,rfl⟩:=Int.eq_ofNat_of_zero_le (show 0<=b by omega)
 have e:zFs=some (.qd 1 [AV.str [102,114,101,101],AV.str [98,97,116,99,104],AV.str [112,114,111,100],AV.str [109,111,110,105,116,111,114,105,110,103]]):=zFd;rw[e,zDE];refine Wc (λ_=>Wb ⟨_,rfl,trivial⟩) λh2=>?_
 have h2:b<4:=by
  have:¬(ofNat b>=4):=h2;rw[QB]at this;omega
 rw[zDE];rcases(by omega:b=0\/b=1\/b=2\/b=3)with rfl|rfl|rfl|rfl
 all_goals exact qk_s rfl (Wb ⟨_,rfl,trivial⟩)
theorem zbS(r:Rc)(j:Ty r)(f:Nat)(x:f<=12):Wp (zIa r.k r.n r.bd r.a1 r.a2 r.a3 r.a4 r.at_ r.sk r.sn r.su r.sb r.sc r.sd r.si r.s1 r.s2 r.s3 r.s4 r.sr r.qZ r.tj r.ti r.bj r.bi r.m r.qY r.ic r.nu r.cd r.on (ofNat f)) (isQ (kF r f)):=by
 rw[zPV];rcases(by omega:f=0\/f=1\/f=2\/f=3\/f=4\/f=5\/f=6\/f=7\/f=8\/f=9\/f=10\/f=11\/f=12)with rfl|rfl|rfl|rfl|rfl|rfl|rfl|rfl|rfl|rfl|rfl|rfl|rfl
 .show Wp (dK true [K.b] (zq r.n) _) _
  exact zAh (R:=λ_=>True) (zA1 r.n) λb _=>Wb ⟨_,rfl,λ_=>trivial⟩
 .show Wp (dK true [K.s] (zB6 r.bd) _) _
  exact zMz (R:=λ_=>True) (zaR _) λb _=>Wb ⟨_,rfl,λ_=>trivial⟩
 .show Wp (dK true [K.i .i64] (zCM r.a1 r.a2 r.a3 r.a4) _) _
  refine zCe (zFI ..) (Wa (λh=>?_) λ_=>Wb ⟨_,rfl,λh=>by cases h⟩)
  have g:okA r.a1 r.a2 r.a3 r.a4:=by
   by_cases g:okA r.a1 r.a2 r.a3 r.a4
   .exact g
   .rw[if_neg g]at h;cases h
  exact Wa (λ_=>Wb ⟨_,rfl,λ_=>g⟩) λ_=>Wb ⟨_,rfl,λ_=>g⟩
 .show Wp (dK true [K.i .i64] (zHd r.at_) _) _
  exact zT0 (R:=λn=>n=0->∀e∈r.at_,zHo e) (zV0 _ j.at_) λn h=>Wb ⟨_,rfl,λl=>h (i0 l)⟩
 .show Wp (dK true [K.i .i64] (zAk r.sk r.sn r.su r.sb r.sc r.sd r.si r.s1 r.s2 r.s3 r.s4 r.sr r.qZ) _) _
  obtain⟨_,e,n,rfl,_⟩:=zVP (k:=r.sk) (n:=r.sn) (u:=r.su) (b:=r.sb) (c:=r.sc) (d:=r.sd) (i_:=r.si) (x1:=r.s1) (x2:=r.s2) (x3:=r.s3) (x4:=r.s4) (ba:=r.qZ) j.sr;exact zCe e (Wa (λh=>Wb ⟨_,rfl,λ_=>(show zAk r.sk r.sn r.su r.sb r.sc r.sd r.si r.s1 r.s2 r.s3 r.s4 r.sr r.qZ=some (.int .i64 0) by rw[e,i0 h])⟩) λ_=>Wb ⟨_,rfl,λh=>by cases h⟩)
 .show Wp (dK true [K.b] (zCi r.tj r.ti) _) _
  exact zAh (R:=λ_=>True) (zTK _ _) λb _=>Wb ⟨_,rfl,λ_=>trivial⟩
 .show Wp (br (r.cd==3) (dK true [K.b] (zCi r.bj r.bi) _) _) _
  exact Wa (λ_=>zAh (R:=λ_=>True) (zTK _ _) λb _=>Wb ⟨_,rfl,λ_=>trivial⟩) λ_=>Wb ⟨_,rfl,λ_=>trivial⟩
 .show Wp (dK true [K.b] (zq r.m) _) _
  exact zAh (R:=λ_=>True) (zA1 r.m) λb _=>Wb ⟨_,rfl,λ_=>trivial⟩
 .show Wp (dK true [K.qe 2,K.agg 2,K.s,K.i .i64,K.i .i64] (zDH r.qY) _) _
  obtain⟨_,e,a,b,n,rfl⟩:=zXK r.qY (by have:=j.qY;omega)
  exact zVI e (Wa (λ_=>Wb ⟨_,rfl,λ_=>trivial⟩) λ_=>Wb ⟨_,rfl,λ_=>trivial⟩)
 .exact Wb ⟨_,rfl,λ_=>trivial⟩
 .exact Wb ⟨_,rfl,λ_=>trivial⟩
 .show Wp (dK true [K.b] (zFM r.k r.n r.bd r.a1 r.a2 r.a3 r.a4 r.at_ r.sk r.sn r.su r.sb r.sc r.sd r.si r.s1 r.s2 r.s3 r.s4 r.sr r.qZ r.tj r.ti r.bj r.bi r.m r.qY r.ic r.nu r.cd r.on) _) _
  exact zAh (R:=λ_=>True) (zaQ r) λb _=>Wb ⟨_,rfl,λ_=>trivial⟩
 .exact Wb ⟨_,rfl,λ_=>trivial⟩
theorem zYO(l:JV)(f:Nat)(hl:l.length<=13):∀(n i:Nat),i<=l.length->l.length-i<n->(∀j (h:j<l.length),j<i->l[j]≠f)->Wp (zAH n (kI l) (ofNat f) (ofNat (kI l).length) (ofNat i)) λv=>∃x,v=.int .i64 x/\decide (x>=0)=decide (f∈l):=by
 intro n
 induction n with
 |zero=>intro i _ h;omega
 |succ n F=>
  intro i hi H s;rw[zHC,QG];refine Wp.lt (λg=>?_) λB=>Wb ⟨_,rfl,?_⟩
  .have D:ixN (kI l) (ofNat i)=some (.int .i64 (ofNat l[i])):=by
    have z:i<(kI l).length:=by rw[QG];exact g
    rw[zAO z,List.getElem_map]
   refine zCe D (Wa (λh=>Wb ⟨_,rfl,?_⟩) λh=>?_)
   .have h:ofNat f=ofNat l[i]:=by simpa using h
    have h:f=l[i]:=Int.ofNat_inj.1 h;rw[Ql (show f∈l from h▸Qf g)]
    exact Ql (Qj i)
   .rw[zo (by omega)]
    have h:¬f=l[i]:=λe=>by rw[←e]at h;simp at h
    have:=F (i+1) g (by omega) λj A C=>by
     rcases Nat.lt_or_ge j i with q|q
     .exact s j A q
     .obtain rfl:j=i:=by omega
      exact λe=>h e.symm
    rwa [QG]at this
  .have:f ∉ l:=λE=>by
    obtain⟨j,A,e⟩:=List.getElem_of_mem E;exact s j A (by omega) e
   rw[Qn this];rfl
theorem contains(l:JV)(f:Nat)(hl:l.length<=13):zCr (kI l) (ofNat f)=some (.bool (decide (f∈l))):=by
 rw[zHD,zIW];obtain⟨_,e,x,rfl,g⟩:=zYO l f hl zp 0 (QS _) (zQ (by omega)) λj _ h=>absurd h (Nat.not_lt_zero _)
 have e:zAH zp (kI l) (ofNat f) (ofNat (kI l).length) (ofNat 0)=some (.int .i64 x):=e;rw[e,zY7,g]
abbrev zV1(r:Rc)(f:Nat):Prop:=(f∈hasM r.k->kF r f)/\(f ∉ hasM r.k->zF r f)
def wP(r:Rc):Prop:=hasM r.k≠[]/\∀f,f<=12->zV1 r f
abbrev isC(r:Rc)(v:AV):Prop:=∃e,v=.int .i64 e/\(e=0->wP r)
theorem zbT(r:Rc)(s:Ty r)(h0:hasM r.k≠[]):∀(n i:Nat),i<=13->13-i<n->(∀f,f<i->zV1 r f)->Wp (zBg n (kI (hasM r.k)) (ofNat i) r.k r.n r.bd r.a1 r.a2 r.a3 r.a4 r.at_ r.sk r.sn r.su r.sb r.sc r.sd r.si r.s1 r.s2 r.s3 r.s4 r.sr r.qZ r.tj r.ti r.bj r.bi r.m r.qY r.ic r.nu r.cd r.on) (isC r):=by
 have bad:isC r (.int .i64 (ofNat 2)):=⟨_,rfl,λh=>by cases h⟩
 intro n
 induction n with
 |zero=>intro i _ h;omega
 |succ n A=>
  intro i hi E j;rw[zLw];refine Wc (λe=>?_) λg=>Wb ⟨_,rfl,λ_=>⟨h0,λf h=>j f ?_⟩⟩
  .rw[QB]at e;have e:i<=12:=by omega
   obtain⟨_,e1,C,rfl,z⟩:=zaP r i e;have l:zV1 r i->Wp (zBg n (kI (hasM r.k)) (wrapx IntKind.i64 (ofNat i+1)) r.k r.n r.bd r.a1 r.a2 r.a3 r.a4 r.at_ r.sk r.sn r.su r.sb r.sc r.sd r.si r.s1 r.s2 r.s3 r.s4 r.sr r.qZ r.tj r.ti r.bj r.bi r.m r.qY r.ic r.nu r.cd r.on) (isC r):=λh=>by
    rw[zo (by omega)]
    refine A (i+1) (by omega) (by omega) λf B=>?_
    rcases Nat.lt_or_ge f i with q|q
    .exact j f q
    .obtain rfl:f=i:=by omega
     exact h
   refine qk_b e1 (qk_b (contains _ i (zNV r.k).2) (Wa (λhc=>?_) λhc=>?_))
   .obtain⟨_,e2,D,rfl,x⟩:=zbS r s i e;have hc:i∈hasM r.k:=Qi hc;exact qk_b e2 (Wa (λ_=>Wb bad) λh2=>l ⟨λ_=>x (by simpa using h2),λh=>absurd hc h⟩)
   .have hc:i ∉ hasM r.k:=of_decide_eq_false hc;exact Wa (λ_=>Wb bad) λh2=>l ⟨λh=>absurd h hc,λ_=>z (by simpa using h2)⟩
  .rw[QB]at g;omega
theorem zaS(r:Rc)(e:Ty r):Wp (zHA r.k r.n r.bd r.a1 r.a2 r.a3 r.a4 r.at_ r.sk r.sn r.su r.sb r.sc r.sd r.si r.s1 r.s2 r.s3 r.s4 r.sr r.qZ r.tj r.ti r.bj r.bi r.m r.qY r.ic r.nu r.cd r.on) (isC r):=by
 rw[zOS];by_cases h0:hasM r.k=[]
 .rw[zZl,h0];exact Wb ⟨_,rfl,λh=>by cases h⟩
 .rw[zXJ h0,zDE];refine Wa (λh=>?_) λ_=>zbT r e h0 zp 0 (by omega) (zQ (by omega)) λf h=>absurd h (Nat.not_lt_zero _)
  exact absurd (List.map_eq_nil_iff.1 (len0 h)) h0
theorem zU3{r:Rc}(e:Ty r)(h:wP r):zSF r:=by
 refine⟨h.1,λf l=>?_⟩
 have j:=(zNV r.k).1 f l;have g:=(h.2 f j).1 l;rcases(by omega:f=0\/f=1\/f=2\/f=3\/f=4\/f=5\/f=6\/f=7\/f=8\/f=9\/f=10\/f=11\/f=12)with rfl|rfl|rfl|rfl|rfl|rfl|rfl|rfl|rfl|rfl|rfl|rfl|rfl
 .show r.n.length<=65536;have:=e.n;omega
 .trivial
 .exact g
 .exact⟨g,e.al⟩
 .obtain⟨x,h1,h2,_⟩:=back (strict e.sr g) g;exact⟨x,h1,h2⟩
 .show r.tj.length<=65536;have:=e.tj;omega
 .show r.bj.length<=65536;have:=e.bj;omega
 .show r.m.length<=65536;have:=e.m;omega
 .show r.qY.length<=65536;have:=e.qY;omega
 .exact e.ic
 .exact e.nu
 .trivial
 .trivial
theorem zYP(k:Nat):∀(n x:Nat)(b:JE),x<128 ^ (k+1)->k<n->b.length+k<=60000000000000->zBH n (ofNat x) b=vec1 (b++bys (uv x)):=by
 induction k with
 |zero=>
  intro n x b j s hb;obtain⟨n,rfl⟩:∃m,n=m+1:=⟨n-1,by omega⟩
  have h:x<128:=by simpa using j
  rw[zEG,show decide (ofNat x>=128)=false from Qn (by rw[QB];omega),zW,zEP (by show b.length+1<=_;omega),zHU h,zJb,Nat.mod_eq_of_lt (by omega)]
  rfl
 |succ k l=>
  intro n x b j s hb;obtain⟨n,rfl⟩:∃m,n=m+1:=⟨n-1,by omega⟩
  rw[zEG];by_cases h:x<128
  .rw[show decide (ofNat x>=128)=false from Qn (by rw[QB];omega),zW,zEP (by show b.length+1<=_;omega),zHU h,zJb,Nat.mod_eq_of_lt (by omega)]
   rfl
  .rw[show decide (ofNat x>=128)=true from Ql (by rw[QB];omega),zHv,zEP (by show b.length+1<=_;omega),zXH,zSc,zKq h]
   have g:x / 128<128 ^ (k+1):=by rw[Nat.pow_succ]at j;omega
   have e:=l n (x / 128) (b++bys [x % 128+128]) g (by omega) (by rw[QH];show b.length+1+k<=_;omega)
   rw[show bys ((x % 128+128)::uv (x / 128))=bys [x % 128+128]++bys (uv (x / 128))from rfl,←QK]
   exact e
theorem num1(x:Nat)(hx:x<1000):zE1 (ofNat x)=some (.qd 1 (bys (uv x))):=by
 have e:=zYP 9 zp x [] (QV (show x<1000 from hx) (by decide)) (zQ (by omega)) (by show 0+9<=_;omega)
 rw[zN5,zJB,zNU x (by omega),zJ3,zM2,zGU,e,zGU]
 rfl
def sm(r q:Rc):Nat->Prop
 |0=>r.n=q.n
 |1=>r.bd=q.bd
 |2=>r.a1=q.a1/\r.a2=q.a2/\r.a3=q.a3/\r.a4=q.a4
 |3=>r.at_=q.at_
 |4=>r.sk=q.sk/\r.sn=q.sn/\r.su=q.su/\r.sb=q.sb/\r.sc=q.sc/\r.sd=q.sd/\r.si=q.si/\r.s1=q.s1/\r.s2=q.s2/\r.s3=q.s3/\r.s4=q.s4/\r.sr=q.sr/\r.qZ=q.qZ
 |5=>r.tj=q.tj/\r.ti=q.ti
 |6=>r.bj=q.bj/\r.bi=q.bi
 |7=>r.m=q.m
 |8=>r.qY=q.qY
 |9=>r.ic=q.ic
 |10=>r.nu=q.nu
 |11=>r.cd=q.cd
 |_=>r.on=q.on
theorem zaT{v w:AV}(hv:zHo v)(e:zHo w){s t:JV}(h:atE v++s=atE w++t):v=w/\s=t:=by
 obtain⟨a,b,rfl,_⟩:=hv;obtain⟨c,d,rfl,_⟩:=e;have h:(tv a++tv b)++s=(tv c++tv d)++t:=h;rw[QK,QK]at h;obtain⟨h1,h2⟩:=zH3 h;obtain⟨h3,h4⟩:=zH3 h2;exact⟨by rw[h1,h3],h4⟩
theorem zU4:∀{l m:JE},l.length=m.length->(∀v∈l,zHo v)->(∀v∈m,zHo v)->∀{s t:JV},l.flatMap atE++s=m.flatMap atE++t->l=m/\s=t
 |[],[],_,_,_,s,t,h=>⟨rfl,h⟩
 |a::l,b::m,hl,h1,h2,s,t,h=>by
  rw[List.flatMap_cons,List.flatMap_cons,QK,QK]at h;obtain⟨e1,h3⟩:=zaT (h1 a (.head _)) (h2 b (.head _)) h;obtain⟨e2,h4⟩:=zU4 (Nat.succ.inj hl) (λv hv=>h1 v (.tail _ hv)) (λv hv=>h2 v (.tail _ hv)) h3
  exact⟨by rw[e1,e2],h4⟩
theorem zQY{x y:Int}(hx:inA x)(e:inA y){s t:JV}(h:uv (2*x.toNat)++s=uv (2*y.toNat)++t):x=y/\s=t:=by
 have ⟨h1,h2⟩:=zLm h;unfold inA at hx e;exact⟨by omega,h2⟩
theorem zNW{x y:Int}(hx:i64 x)(e:i64 y){s t:JV}(h:uv (uw x)++s=uv (uw y)++t):x=y/\s=t:=by
 have ⟨h1,h2⟩:=zLm h;exact⟨zbM hx e h1,h2⟩
theorem zXL{x y:Int}(hx:u64 x)(e:u64 y){s t:JV}(h:uv (uw x)++s=uv (uw y)++t):x=y/\s=t:=by
 have ⟨h1,h2⟩:=zLm h;exact⟨zaL hx e h1,h2⟩
theorem zXM{r:Rc}(j:Ty r)(g:kF r 4):ln (spT r)=.spec (.agg [.int .i64 r.sk,.str r.sn,.str r.su,.int .i64 r.sb,.int .i64 r.sc,.int .i64 r.sd,.str r.si,.int .i64 r.s1,.int .i64 r.s2,.int .i64 r.s3,.int .i64 r.s4,.qd 6 r.sr,.int .i64 r.qZ]):=by
 obtain⟨x,h1,h2,_,h3⟩:=back (strict j.sr g) g;have e:spT r=x:=by unfold spT;rw[h1]
 rw[e,h3]
theorem zYQ{r q:Rc}(hr:Ty r)(e:Ty q)(f:Nat)(E:f<=12)(g:kF r f)(j:kF q f){s t:JV}(h:zHL r f++s=zHL q f++t):sm r q f/\s=t:=by
 rcases(by omega:f=0\/f=1\/f=2\/f=3\/f=4\/f=5\/f=6\/f=7\/f=8\/f=9\/f=10\/f=11\/f=12)with rfl|rfl|rfl|rfl|rfl|rfl|rfl|rfl|rfl|rfl|rfl|rfl|rfl
 .exact zH3 h
 .exact zNW hr.bd e.bd h
 .have h:(uv (2*r.a1.toNat)++(uv (2*r.a2.toNat)++(uv (2*r.a3.toNat)++uv (2*r.a4.toNat))))++s=(uv (2*q.a1.toNat)++(uv (2*q.a2.toNat)++(uv (2*q.a3.toNat)++uv (2*q.a4.toNat))))++t:=h;simp only[QK]at h;obtain⟨x,C,l,z⟩:=g;obtain⟨q1,D,A,B⟩:=j;obtain⟨h1,h⟩:=zQY x q1 h;obtain⟨h2,h⟩:=zQY C D h;obtain⟨h3,h⟩:=zQY l A h;obtain⟨h4,h⟩:=zQY z B h;exact⟨⟨h1,h2,h3,h4⟩,h⟩
 .have h:(uv r.at_.length++r.at_.flatMap atE)++s=(uv q.at_.length++q.at_.flatMap atE)++t:=h;rw[QK,QK]at h;obtain⟨h1,h⟩:=zLm h;exact zU4 h1 g j h
 .obtain⟨h1,h⟩:=zH3 (show tv (spT r)++s=tv (spT q)++t from h)
  have e1:=zXM hr g;rw[h1,zXM e j]at e1;injection e1 with e1
  injection e1 with e1
  simp only[List.cons.injEq,AV.int.injEq,AV.str.injEq,AV.qd.injEq,true_and,and_true]at e1;refine⟨?_,h⟩
  unfold sm;simp only[e1,and_self]
 .have h:(tv r.tj++uv (uw r.ti))++s=(tv q.tj++uv (uw q.ti))++t:=h;rw[QK,QK]at h;obtain⟨h1,h⟩:=zH3 h;obtain⟨h2,h⟩:=zNW hr.ti e.ti h;exact⟨⟨h1,h2⟩,h⟩
 .have h:(tv r.bj++uv (uw r.bi))++s=(tv q.bj++uv (uw q.bi))++t:=h;rw[QK,QK]at h;obtain⟨h1,h⟩:=zH3 h;obtain⟨h2,h⟩:=zNW hr.bi e.bi h;exact⟨⟨h1,h2⟩,h⟩
 .exact zH3 h
 .exact zH3 h
 .exact zXL hr.ic e.ic h
 .exact zXL hr.nu e.nu h
 .exact zNW hr.cd e.cd h
 .have h:r.on.toNat::s=q.on.toNat::t:=h;have h1:=(List.cons.inj h).1;refine⟨?_,(List.cons.inj h).2⟩
  show r.on=q.on
  cases e1:r.on<;>cases e2:q.on<;>rw[e1,e2]at h1<;>first|rfl|cases h1
theorem zTL{r q:Rc}(hr:Ty r)(j:Ty q):∀(l:JV),(∀f∈l,f<=12/\kF r f/\kF q f)->∀{s t:JV},zK4 r l++s=zK4 q l++t->(∀f∈l,sm r q f)/\s=t
 |[],_,s,t,h=>⟨λf g=>(by cases g),h⟩
 |a::l,hl,s,t,h=>by
  have h:(zHL r a++zK4 r l)++s=(zHL q a++zK4 q l)++t:=h;rw[QK,QK]at h;obtain⟨h0,x,z⟩:=hl a (.head _);obtain⟨h1,h⟩:=zYQ hr j a h0 x z h;obtain⟨h2,h⟩:=zTL hr j l (λf g=>hl f (.tail _ g)) h
  exact⟨λf g=>(QI.1 g).elim (λe=>e▸h1) (h2 f),h⟩
theorem zaU{r q:Rc}(f:Nat)(e:f<=12)(h1:zF r f)(h2:zF q f):sm r q f:=by
 rcases(by omega:f=0\/f=1\/f=2\/f=3\/f=4\/f=5\/f=6\/f=7\/f=8\/f=9\/f=10\/f=11\/f=12)with rfl|rfl|rfl|rfl|rfl|rfl|rfl|rfl|rfl|rfl|rfl|rfl|rfl
 all_goals (unfold zF at h1 h2;unfold sm;simp only at h1 h2;simp only[h1,h2,and_self])
theorem zXN{r q:Rc}(A:r.k=q.k)(h:∀f,f<=12->sm r q f):r=q:=by
 have h0:=h 0 (by decide);have h1:=h 1 (by decide);have h2:=h 2 (by decide);have h3:=h 3 (by decide);have h4:=h 4 (by decide);have z:=h 5 (by decide);have l:=h 6 (by decide)
 have x:=h 7 (by decide);have h8:=h 8 (by decide);have s:=h 9 (by decide);have e:=h 10 (by decide);have j:=h 11 (by decide);have g:=h 12 (by decide)
 unfold sm at h0 h1 h2 h3 h4 z l x h8 s e j g;cases r;cases q;simp only at A h0 h1 h2 h3 h4 z l x h8 s e j g;simp only[Rc.mk.injEq,A,h0,h1,h2,h3,h4,z,l,x,h8,s,e,j,g,and_self]
theorem zYR{r q:Rc}(hr:Ty r)(x:Ty q)(gr:wP r)(z:wP q){s t:JV}(h:zIl r++s=zIl q++t):r=q/\s=t:=by
 unfold zIl at h;rw[QK,QK]at h;obtain⟨j,h⟩:=zNW hr.k x.k h;rw[j]at h;have g:=(zNV q.k).1;obtain⟨h1,h⟩:=zTL hr x (hasM q.k) (λf e=>⟨g f e,(gr.2 f (g f e)).1 (j▸e),(z.2 f (g f e)).1 e⟩) h
 refine⟨zXN j λf e=>?_,h⟩
 by_cases l:f∈hasM q.k
 .exact h1 f l
 .exact zaU f e ((gr.2 f e).2 (j▸l)) ((z.2 f e).2 l)
theorem zYS(l:List Rc):∀(m:List Rc),l.length=m.length->(∀r∈l,Ty r/\wP r)->(∀r∈m,Ty r/\wP r)->∀(s t:JV),zEu l++s=zEu m++t->l=m/\s=t:=by
 induction l with
 |nil=>
  intro m hl _ _ s t h;cases m with
  |nil=>exact⟨rfl,h⟩
  |cons b m=>cases hl
 |cons a l e=>
  intro m hl h1 h2 s t h;cases m with
  |nil=>cases hl
  |cons b m=>
   have e1:zEu (a::l)=zIl a++zEu l:=List.flatMap_cons;have e2:zEu (b::m)=zIl b++zEu m:=List.flatMap_cons;rw[e1,e2,QK,QK]at h;obtain⟨q1,h3⟩:=zYR (h1 a (.head _)).1 (h2 b (.head _)).1 (h1 a (.head _)).2 (h2 b (.head _)).2 h;obtain⟨g,h4⟩:=e m (Nat.succ.inj hl) (λv hv=>h1 v (.tail _ hv)) (λv hv=>h2 v (.tail _ hv)) s t h3
   exact⟨by rw[q1,g],h4⟩
theorem zaV{l m:List Rc}(h1:∀r∈l,Ty r/\wP r)(h2:∀r∈m,Ty r/\wP r)(h:uv l.length++zEu l=uv m.length++zEu m):l=m:=by
 obtain⟨hl,h⟩:=zLm h;exact(zYS l m hl h1 h2 [] [] (by rw[h])).1
abbrev isI(P:Prop)(v:AV):Prop:=∃b,v=.bool b/\(b=true↔P)
theorem zGh{P:Prop}(h:¬P):isI P (.bool false):=⟨false,rfl,⟨λh=>(by cases h),λp=>absurd p h⟩⟩
theorem zOK{P:Prop}(h:P):isI P (.bool true):=⟨true,rfl,⟨λ_=>h,λ_=>rfl⟩⟩
theorem neI{x y:Int}(h:(x != y)=false):x=y:=by simpa using h
theorem zQe{x y:Int}(h:(x != y)=true):¬x=y:=by simpa using h
theorem zWe{a b:JE}(h:(ofNat a.length != ofNat b.length)=false):a.length=b.length:=Int.ofNat_inj.1 (neI h)
theorem zSG{a b:JE}(h:(ofNat a.length != ofNat b.length)=true):¬a=b:=λe=>zQe h (by rw[e])
theorem zV2(x y:JV)(hx:x.length<=1000000000000):Wp (zCn (bys x) (bys y)) (isI (x=y)):=by
 have loop:x.length=y.length->∀(n i:Nat),i<=x.length->x.length-i<n->(∀j (h1:j<x.length) (h2:j<y.length),j<i->x[j]=y[j])->Wp (zAK n (bys x) (bys y) (ofNat i)) (isI (x=y)):=by
  intro hl n
  induction n with
  |zero=>intro i _ h;omega
  |succ n B=>
   intro i hi C z;rw[zGF,QG];refine Wp.lt (λg=>?_) λA=>Wb (zOK (List.ext_getElem hl λj h1 h2=>z j h1 h2 (by omega)))
   have s:ixN (bys x) (ofNat i)=some (.int .u8 (ofNat x[i])):=by
    rw[zAO (by rw[QG];exact g),List.getElem_map]
   have l:ixN (bys y) (ofNat i)=some (.int .u8 (ofNat y[i])):=by
    rw[zAO (by rw[QG];omega),List.getElem_map]
   refine zQa s (zQa l (Wa (λh=>Wb (zGh λe=>?_)) λh=>?_))
   .subst e;exact zQe h rfl
   .rw[zo (by omega)]
    refine B (i+1) g (by omega) λj h1 h2 D=>?_
    rcases Nat.lt_or_ge j i with q|q
    .exact z j h1 h2 q
    .obtain rfl:j=i:=by omega
     exact Int.ofNat_inj.1 (neI h)
 rw[zHp];refine Wa (λh=>Wb (zGh λe=>zSG h (by rw[e]))) λh=>?_
 have hl:x.length=y.length:=by have:=zWe h;rwa [QG,QG]at this
 exact loop hl zp 0 (QS _) (zQ (by omega)) λj _ _ h=>absurd h (Nat.not_lt_zero _)
theorem zXO(es g:JE)(h:NdB es)(h':NdB g):Wp (zCw es g) (isI (es=g)):=by
 have loop:es.length=g.length->∀(n i:Nat),i<=es.length->es.length-i<n->(∀j (h1:j<es.length) (h2:j<g.length),j<i->es[j]=g[j])->Wp (zAU n (ofNat i) es g) (isI (es=g)):=by
  intro hl n
  induction n with
  |zero=>intro i _ h;omega
  |succ n T=>
   intro i hi U J;rw[zGX];refine Wp.lt (λx=>h.at x λk s t z l r e1 _ _=>h'.at (hl▸x) λH A E M K C e2 _ _=>?_) λO=>Wb (zOK (List.ext_getElem hl λj h1 h2=>J j h1 h2 (by omega)))
   show Wp (br (!(k==H&&(zi s A&&(zi t E&&(z==M&&(l==K&&r==C)))))) _ _) _
   refine Wa (λhb=>Wb (zGh λe=>?_)) λhb=>?_
   .subst e;rw[e1]at e2;injection e2 with e2
    simp only[List.cons.injEq,AV.int.injEq,AV.str.injEq,true_and,and_true]at e2;obtain⟨rfl,rfl,rfl,rfl,rfl,rfl⟩:=e2;rw[zD4,zD4]at hb;simp at hb
   rw[zo (by have:=h.2;omega)]
   refine T (i+1) x (by omega) λj h1 h2 V=>?_
   rcases Nat.lt_or_ge j i with q|q
   .exact J j h1 h2 q
   .obtain rfl:j=i:=by omega
    have hb:(k==H&&(zi s A&&(zi t E&&(z==M&&(l==K&&r==C)))))=true:=by simpa using hb
    simp only[qr]at hb;obtain⟨B,S,Q,I,D,F⟩:=hb;rw[e1,e2];have:=zP S;have:=zP Q;simp only[beq_iff_eq]at B I D F;subst B I D F;simp_all
 rw[zHH];refine Wa (λh=>Wb (zGh (zSG h))) λe=>loop (zWe e) _ 0 (QS _) (zQ (by have:=h.2;omega)) λj _ _ h=>absurd h (Nat.not_lt_zero _)
theorem sq{s t:JV}(h:(zi s t)=false):¬s=t:=λe=>by rw[e,zD4]at h;cases h
theorem eqI{x y:Int}(h:(x==y)=true):x=y:=by simpa using h
theorem zT2{x y:Int}(h:(x==y)=false):¬x=y:=by simpa using h
theorem zXP{r q:Rc}(hr:NdB r.sr)(g:NdB q.sr):Wp (zCx r.sk r.sn r.su r.sb r.sc r.sd r.si r.s1 r.s2 r.s3 r.s4 r.sr r.qZ q.sk q.sn q.su q.sb q.sc q.sd q.si q.s1 q.s2 q.s3 q.s4 q.sr q.qZ) (isI (sm r q 4)):=by
 rw[zHI];have no:¬sm r q 4->Wp (some (AV.bool false)) (isI (sm r q 4)):=λh=>Wb (zGh h)
 refine Wa (λh1=>Wa (λh2=>Wa (λh3=>Wa (λh4=>Wa (λl=>Wa (λs=>Wa (λj=>Wa (λh8=>Wa (λx=>?_) λh=>no λe=>?_) λh=>no λe=>?_) λh=>no λe=>?_) λh=>no λe=>?_) λh=>no λe=>?_) λh=>no λe=>?_) λh=>no λe=>?_) λh=>no λe=>?_) λh=>no λe=>?_
 .obtain⟨_,e,b,rfl,hb⟩:=zXO r.sr q.sr hr g;refine qk_b e (Wb ⟨b,rfl,hb.trans ?_⟩)
  simp only[qr]at h8;unfold sm;simp only[eqI h1,zP h2,zP h3,eqI h4,eqI l,eqI s,zP j,eqI h8.1,eqI h8.2.1,eqI h8.2.2.1,eqI h8.2.2.2,eqI x,true_and,and_true]
 all_goals (unfold sm at e;simp only at e)
 .exact zT2 h e.2.2.2.2.2.2.2.2.2.2.2.2
 .rw[e.2.2.2.2.2.2.2.1,e.2.2.2.2.2.2.2.2.1,e.2.2.2.2.2.2.2.2.2.1,e.2.2.2.2.2.2.2.2.2.2.1]at h;simp at h
 .exact sq h e.2.2.2.2.2.2.1
 .exact zT2 h e.2.2.2.2.2.1
 .exact zT2 h e.2.2.2.2.1
 .exact zT2 h e.2.2.2.1
 .exact sq h e.2.2.1
 .exact sq h e.2.1
 .exact zT2 h e.1
theorem zbU(r q:Rc)(hr:Ats r.at_)(C:Ats q.at_)(hl:r.at_.length=q.at_.length):∀(n i:Nat),i<=r.at_.length->r.at_.length-i<n->(∀j (h1:j<r.at_.length) (h2:j<q.at_.length),j<i->r.at_[j]=q.at_[j])->Wp (zAI n (ofNat i) r.k r.n r.bd r.a1 r.a2 r.a3 r.a4 r.at_ r.sk r.sn r.su r.sb r.sc r.sd r.si r.s1 r.s2 r.s3 r.s4 r.sr r.qZ r.tj r.ti r.bj r.bi r.m r.qY r.ic r.nu r.cd r.on q.k q.n q.bd q.a1 q.a2 q.a3 q.a4 q.at_ q.sk q.sn q.su q.sb q.sc q.sd q.si q.s1 q.s2 q.s3 q.s4 q.sr q.qZ q.tj q.ti q.bj q.bi q.m q.qY q.ic q.nu q.cd q.on) (isI (r.at_=q.at_)):=by
 intro n
 induction n with
 |zero=>intro i _ h;omega
 |succ n D=>
  intro i hi E z;rw[zGn];refine Wp.lt (λg=>hr.at g λs t e1=>C.at (hl▸g) λl x e2=>?_) λB=>Wb (zOK (List.ext_getElem hl λj h1 h2=>z j h1 h2 (by omega)))
  show Wp (br (!(zi s l&&zi t x)) _ _) _
  refine Wa (λhb=>Wb (zGh λe=>?_)) λhb=>?_
  .have e3:r.at_[i]=q.at_[i]'(hl▸g):=by simp only[e]
   rw[e1,e2]at e3;injection e3 with e3
   simp only[List.cons.injEq,AV.str.injEq,and_true]at e3;rw[e3.1,e3.2,zD4,zD4]at hb;simp at hb
  rw[zo (by have:=hr.2;omega)]
  refine D (i+1) g (by omega) λj h1 h2 F=>?_
  rcases Nat.lt_or_ge j i with A|A
  .exact z j h1 h2 A
  .obtain rfl:j=i:=by omega
   have hb:(zi s l&&zi t x)=true:=by simpa using hb
   simp only[qr]at hb;rw[e1,e2,zP hb.1,zP hb.2]
theorem zYT{r q:Rc}(hr:Ty r)(B:Ty q):Wp (zCa r.k r.n r.bd r.a1 r.a2 r.a3 r.a4 r.at_ r.sk r.sn r.su r.sb r.sc r.sd r.si r.s1 r.s2 r.s3 r.s4 r.sr r.qZ r.tj r.ti r.bj r.bi r.m r.qY r.ic r.nu r.cd r.on q.k q.n q.bd q.a1 q.a2 q.a3 q.a4 q.at_ q.sk q.sn q.su q.sb q.sc q.sd q.si q.s1 q.s2 q.s3 q.s4 q.sr q.qZ q.tj q.ti q.bj q.bi q.m q.qY q.ic q.nu q.cd q.on) (isI (r=q)):=by
 rw[zHl];have no:¬r=q->Wp (zj true r.k r.n r.bd r.a1 r.a2 r.a3 r.a4 r.at_ r.sk r.sn r.su r.sb r.sc r.sd r.si r.s1 r.s2 r.s3 r.s4 r.sr r.qZ r.tj r.ti r.bj r.bi r.m r.qY r.ic r.nu r.cd r.on q.k q.n q.bd q.a1 q.a2 q.a3 q.a4 q.at_ q.sk q.sn q.su q.sb q.sc q.sd q.si q.s1 q.s2 q.s3 q.s4 q.sr q.qZ q.tj q.ti q.bj q.bi q.m q.qY q.ic q.nu q.cd q.on) (isI (r=q)):=λh=>by
  rw[zCE];exact Wb (zGh h)
 obtain⟨_,E,bs,rfl,C⟩:=zXP (r:=r) (q:=q) hr.sr B.sr;refine Wa (λh=>no λe=>zQe h (by rw[e])) λh1=>Wa (λh=>no λe=>sq (by simpa using h) (by rw[e])) λh2=>Wa (λh=>no λe=>zQe h (by rw[e])) λh3=>Wa (λh=>no λe=>by subst e;simp at h) λh4=>qk_b E (Wa (λh=>no λe=>?_) λD=>Wa (λh=>no λe=>by subst e;rw[zD4]at h;simp at h) λl=>Wa (λh=>no λe=>by subst e;rw[zD4]at h;simp at h) λg=>Wa (λh=>no λe=>sq (by simpa using h) (by rw[e])) λh8=>Wa (λh=>no λe=>sq (by simpa using h) (by rw[e])) λF=>Wa (λh=>no λe=>zQe h (by rw[e])) λx=>Wa (λh=>no λe=>zQe h (by rw[e])) λA=>Wa (λh=>no λe=>zQe h (by rw[e])) λz=>Wa (λh=>no λe=>by subst e;simp at h) λs=>?_)
 .have:bs=true:=C.2 (by subst e;unfold sm;simp)
  rw[this]at h;cases h
 .rw[zCE];refine Wa (λh=>Wb (zGh λe=>zSG h (by rw[e]))) λhl=>?_
  rw[zGo];refine(zbU r q hr.at_ B.at_ (zWe hl) zp 0 (QS _) (zQ (by have:=hr.al;omega)) λj _ _ h=>absurd h (Nat.not_lt_zero _)).mono λv ⟨b,e,hb⟩=>⟨b,e,hb.trans ⟨λH=>?_,λe=>by rw[e]⟩⟩
  have h4:(r.a1==q.a1&&(r.a2==q.a2&&(r.a3==q.a3&&r.a4==q.a4)))=true:=by simpa using h4
  have l:(zi r.tj q.tj&&r.ti==q.ti)=true:=by simpa using l
  have g:(zi r.bj q.bj&&r.bi==q.bi)=true:=by simpa using g
  simp only[qr]at h4 l g;refine zXN (neI h1) λf I=>?_
  rcases(by omega:f=0\/f=1\/f=2\/f=3\/f=4\/f=5\/f=6\/f=7\/f=8\/f=9\/f=10\/f=11\/f=12)with rfl|rfl|rfl|rfl|rfl|rfl|rfl|rfl|rfl|rfl|rfl|rfl|rfl
  .exact zP (by simpa using h2)
  .exact neI h3
  .exact⟨eqI h4.1,eqI h4.2.1,eqI h4.2.2.1,eqI h4.2.2.2⟩
  .exact H
  .exact C.1 (by simpa using D)
  .exact⟨zP l.1,eqI l.2⟩
  .exact⟨zP g.1,eqI g.2⟩
  .exact zP (by simpa using h8)
  .exact zP (by simpa using F)
  .exact neI x
  .exact neI A
  .exact neI z
  .show r.on=q.on
   simpa using s
theorem zXQ(l m:List Rc)(hl:∀r∈l,Ty r)(hm:∀r∈m,Ty r)(F:l.length<=600):Wp (zBU (l.map Rc.av) (m.map Rc.av)) (isI (l=m)):=by
 have loop:l.length=m.length->∀(n i:Nat),i<=l.length->l.length-i<n->(∀j (h1:j<l.length) (h2:j<m.length),j<i->l[j]=m[j])->Wp (zAy n (l.map Rc.av) (m.map Rc.av) (ofNat i)) (isI (l=m)):=by
  intro s n
  induction n with
  |zero=>intro i _ h;omega
  |succ n E=>
   intro i hi D B;rw[zGa,QG];refine Wp.lt (λg=>?_) λC=>Wb (zOK (List.ext_getElem s λj h1 h2=>B j h1 h2 (by omega)))
   have A:ixN (l.map Rc.av) (ofNat i)=some l[i].av:=by
    rw[zAO (by rw[QG];exact g),List.getElem_map]
   have x:ixN (m.map Rc.av) (ofNat i)=some (m[i]'(s▸g)).av:=by
    rw[zAO (by rw[QG];omega),List.getElem_map]
   obtain⟨_,e,b,rfl,hb⟩:=zYT (hl _ (Qf g)) (hm _ (Qf (s▸g)))
   refine z6 A (z6 x (qk_b e (Wa (λh=>Wb (zGh λe=>?_)) λh=>?_)))
   .subst e;rw[hb.2 rfl]at h;cases h
   .rw[zo (by omega)]
    refine E (i+1) g (by omega) λj h1 h2 H=>?_
    rcases Nat.lt_or_ge j i with q|q
    .exact B j h1 h2 q
    .obtain rfl:j=i:=by omega
     exact hb.1 (by simpa using h)
 rw[zGY];refine Wa (λh=>Wb (zGh λe=>zSG h (by rw[e]))) λh=>?_
 have z:l.length=m.length:=by have:=zWe h;rwa [QG,QG]at this
 exact loop z zp 0 (QS _) (zQ (by omega)) λj _ _ h=>absurd h (Nat.not_lt_zero _)
def zb5:AV:=AV.qd 2 [AV.agg [AV.func (Fn.func 65) [] [AV.qb (AV.agg [AV.func (Fn.func 28) [] []]) 0],AV.func (Fn.func 67) [] [AV.qb (AV.agg [AV.func (Fn.func 28) [] []]) 0]],AV.agg [AV.func (Fn.func 69) [] [AV.qb (AV.agg [AV.func (Fn.func 30) [] []]) 0],AV.func (Fn.func 70) [] [AV.qb (AV.agg [AV.func (Fn.func 30) [] []]) 0]],AV.agg [AV.func (Fn.func 31) [] [],AV.func (Fn.func 32) [] []],AV.agg [AV.func (Fn.func 33) [] [],AV.func (Fn.func 34) [] []],AV.agg [AV.func (Fn.func 35) [] [],AV.func (Fn.func 36) [] []],AV.agg [AV.func (Fn.func 75) [] [AV.qb (AV.agg [AV.func (Fn.func 38) [] []]) 0],AV.func (Fn.func 77) [] [AV.qb (AV.agg [AV.func (Fn.func 38) [] []]) 0]],AV.agg [AV.func (Fn.func 75) [] [AV.qb (AV.agg [AV.func (Fn.func 39) [] []]) 0],AV.func (Fn.func 77) [] [AV.qb (AV.agg [AV.func (Fn.func 39) [] []]) 0]],AV.agg [AV.func (Fn.func 65) [] [AV.qb (AV.agg [AV.func (Fn.func 40) [] []]) 0],AV.func (Fn.func 67) [] [AV.qb (AV.agg [AV.func (Fn.func 40) [] []]) 0]],AV.agg [AV.func (Fn.func 65) [] [AV.qb (AV.agg [AV.func (Fn.func 41) [] []]) 0],AV.func (Fn.func 67) [] [AV.qb (AV.agg [AV.func (Fn.func 41) [] []]) 0]],AV.agg [AV.func (Fn.func 78) [] [AV.qb (AV.agg [AV.func (Fn.func 43) [] []]) 0],AV.func (Fn.func 79) [] [AV.qb (AV.agg [AV.func (Fn.func 43) [] []]) 0]],AV.agg [AV.func (Fn.func 78) [] [AV.qb (AV.agg [AV.func (Fn.func 44) [] []]) 0],AV.func (Fn.func 79) [] [AV.qb (AV.agg [AV.func (Fn.func 44) [] []]) 0]],AV.agg [AV.func (Fn.func 69) [] [AV.qb (AV.agg [AV.func (Fn.func 45) [] []]) 0],AV.func (Fn.func 70) [] [AV.qb (AV.agg [AV.func (Fn.func 45) [] []]) 0]],AV.agg [AV.func (Fn.func 46) [] [],AV.func (Fn.func 48) [] []]]
theorem zV3:zFb=some zb5:=by
 unfold zFb gV;rw[zI7]
 kernel_rfl
theorem uc{β:Type}(k:Option β):dK true [K.c zb5] zFb k=k:=by
 rw[zV3];rfl
abbrev zb6(g:List Rc)(v:AV):Prop:=(∃e,e≠0/\v=.qe [.qa,.int .i64 e])\/(v=.qe [.qd 1 (bys (uv g.length++zEu g)),.int .i64 (ofNat 0)]/\∀r∈g,wP r)
theorem zYU(e:List Rc)(h:∀r∈e,zSF r):(zEu e).length<=e.length*400000000:=by
 induction e with
 |nil=>exact QA _
 |cons a l g=>
  have:=g λv hv=>h v (.tail _ hv)
  have:=zTJ (h a (.head _));show(zIl a++zEu l).length<=_
  rw[QH,QR];omega
theorem l9(g:List Rc)(B:∀r∈g,Ty r)(H:g.length<=600):∀(n i:Nat),i<=g.length->g.length-i<n->(∀j (h:j<g.length),j<i->wP g[j])->Wp (zDt n (g.map Rc.av) (g.map Rc.av) (ofNat g.length) (ofNat i)) (zb6 g):=by
 intro n
 induction n with
 |zero=>intro i _ h;omega
 |succ n I=>
  intro i hi J C;rw[zLF];refine Wp.lt (λs=>?_) λD=>?_
  .have F:ixN (g.map Rc.av) (ofNat i)=some g[i].av:=by
    rw[zAO (by rw[QG];exact s),List.getElem_map]
   obtain⟨_,e,c,rfl,hc⟩:=zaS g[i] (B _ (Qf s));refine z6 F (zCe e (Wa (λ_=>Wb (.inl ⟨_,by decide,rfl⟩)) λh=>?_))
   rw[zo (by omega)]
   refine I (i+1) s (by omega) λj z E=>?_
   rcases Nat.lt_or_ge j i with q|q
   .exact C j z q
   .obtain rfl:j=i:=by omega
    exact hc (neI h)
  .have A:∀r∈g,wP r:=λr hr=>by
    obtain⟨j,z,rfl⟩:=List.getElem_of_mem hr;exact C j z (by omega)
   refine Wc (λ_=>Wb (.inl ⟨_,by decide,rfl⟩)) λ_=>?_
   have hl:(uv g.length).length<=10:=zKr (by omega)
   have x:bys (uv g.length)≠[]:=by
    by_cases h:g.length<128
    .rw[zHU h];exact List.cons_ne_nil _ _
    .rw[zKq h];exact List.cons_ne_nil _ _
   have e:=l25 g (λr hr=>zU3 (B r hr) (A r hr)) H zp 0 (bys (uv g.length)) (QS _) (zQ (by omega)) x (by rw[QG];omega)
   rw[List.drop_zero,←zHx]at e;refine⟨_,?_,.inr ⟨rfl,A⟩⟩
   rw[zMc];show dK true [K.l 1] (zE1 (ofNat (g.map Rc.av).length)) _=_
   rw[QG,num1 _ (by omega),zDE]
   exact(uc _).trans e
theorem zTM(e:List Rc)(g:∀r∈e,Ty r)(l:e.length<=600):Wp (zFc (e.map Rc.av)) (zb6 e):=by
 rw[zOl,QG];exact Wa (λ_=>Wb (.inl ⟨_,by decide,rfl⟩)) λ_=>l9 e g l zp 0 (QS _) (zQ (by omega)) λj _ h=>absurd h (Nat.not_lt_zero _)
structure Ty0(r:Rc):Prop where
 k:i64 r.k
 bd:i64 r.bd
 ti:i64 r.ti
 bi:i64 r.bi
 cd:i64 r.cd
 ic:u64 r.ic
 nu:u64 r.nu
 n:r.n.length<=2000000
 m:r.m.length<=2000000
 qY:r.qY.length<=2000000
 tj:r.tj.length<=2000000
 bj:r.bj.length<=2000000
 at_:Ats r.at_
 sr:NdB r.sr
theorem zWf{a b:Nat}(h:a+b<=20000000):wrapx IntKind.i64 (ofNat a+ofNat b)=ofNat (a+b):=by
 rw[zAd (by simp only[QB];omega) (by simp only[QB];omega)]
 rfl
theorem zV4(e:List Rc)(z:∀r∈e,Ty0 r)(K:e.length<=2000000):∀(n i:Nat),i<=e.length->e.length-i<n->(∀j (h:j<e.length),j<i->Ty e[j])->Wp (zA2 n (e.map Rc.av) (ofNat i)) (isQ ((∀r∈e,Ty r)/\e.length<=600)):=by
 have no:Wp (some (AV.bool false)) (isQ ((∀r∈e,Ty r)/\e.length<=600)):=Wb ⟨_,rfl,λh=>by cases h⟩
 intro n
 induction n with
 |zero=>intro i _ h;omega
 |succ n C=>
  intro i hi H s;rw[zHm,QG];refine Wp.lt (λg=>?_) λx=>Wb ⟨_,rfl,λh=>⟨λr hr=>?_,?_⟩⟩
  .have B:ixN (e.map Rc.av) (ofNat i)=some e[i].av:=by
    rw[zAO (by rw[QG];exact g),List.getElem_map]
   have t0:=z _ (Qf g);have q:=λ{β} {P:β->Prop} {wk} {f}=>@z6 β wk P f _ _ _ _ _ _ _ _ _ _ _ _ _ _ _ _ _ _ _ _ _ _ _ _ _ _ _ _ _ _ _ _ B
   refine q (Wc (λ_=>no) λh1=>q (Wc (λ_=>no) λh2=>q (q (q (q (q ?_))))))
   have D:=t0.n;have I:=t0.m;have F:=t0.qY;have J:=t0.tj;have E:=t0.bj;rw[zWf (by omega),zWf (by omega),zWf (by omega),zWf (by omega)]
   refine Wc (λ_=>no) λh3=>?_
   rw[zo (by omega)]
   rw[QB]at h1 h3;refine C (i+1) g (by omega) λj l A=>?_
   rcases Nat.lt_or_ge j i with q|q
   .exact s j l q
   .obtain rfl:j=i:=by omega
    exact{ k:=t0.k,bd:=t0.bd,ti:=t0.ti,bi:=t0.bi,cd:=t0.cd,ic:=t0.ic,nu:=t0.nu,n:=by omega,m:=by omega,qY:=by omega,tj:=by omega,bj:=by omega,at_:=t0.at_,al:=by omega,sr:=t0.sr }
  .obtain⟨j,l,rfl⟩:=List.getElem_of_mem hr;exact s j l (by omega)
  .have h:=Qi h;rw[QB]at h;omega
theorem zU5(e:List Rc)(g:∀r∈e,Ty0 r)(l:e.length<=2000000):Wp (zBs (e.map Rc.av)) (isQ ((∀r∈e,Ty r)/\e.length<=600)):=by
 rw[zH6];exact zV4 e g l zp 0 (QS _) (zQ (by omega)) λj _ h=>absurd h (Nat.not_lt_zero _)
theorem law(l m:List Rc)(hl:∀r∈l,Ty0 r)(hm:∀r∈m,Ty0 r)(F:l.length<=2000000)(nm:m.length<=2000000):zBC (l.map Rc.av) (m.map Rc.av)=some (.bool true):=by
 refine zDF ?_
 rw[zGG,zXc,zdl];obtain⟨_,e1,I,rfl,h1⟩:=zU5 l hl F;obtain⟨_,e2,J,rfl,h2⟩:=zU5 m hm nm;refine Wa (λh=>by cases h) λ_=>qk_b e1 (Wa (λ_=>Wb rfl) λs1=>qk_b e2 (Wa (λ_=>Wb rfl) λs2=>?_))
 obtain⟨t1,A⟩:=h1 (by simpa using s1)
 obtain⟨t2,H⟩:=h2 (by simpa using s2)
 rw[zFX];obtain⟨v,f1,C⟩:=zTM l t1 A;obtain⟨w,f2,B⟩:=zTM m t2 H;rw[f1,f2];rcases C with⟨e,z,rfl⟩|⟨rfl,g1⟩
 .rcases B with⟨s,g,rfl⟩|⟨rfl,g2⟩
  .show Wp (br (e != 0) _ _) _
   exact Wa (λ_=>Wb rfl) λh=>absurd (neI h) z
  .show Wp (br (e != 0) _ _) _
   exact Wa (λ_=>Wb rfl) λh=>absurd (neI h) z
 .rcases B with⟨s,g,rfl⟩|⟨rfl,g2⟩
  .show Wp (br (ofNat 0 != 0) (some (AV.bool true)) (br (s != 0) (some (AV.bool true)) (zAt (l.map Rc.av) (m.map Rc.av) (bys (uv l.length++zEu l)) []))) _
   exact Wa (λ_=>Wb rfl) λ_=>Wa (λ_=>Wb rfl) λh=>absurd (neI h) g
  .show Wp (br (ofNat 0 != 0) (some (AV.bool true)) (br (ofNat 0 != 0) (some (AV.bool true)) (zAt (l.map Rc.av) (m.map Rc.av) (bys (uv l.length++zEu l)) (bys (uv m.length++zEu m))))) _
   refine Wa (λ_=>Wb rfl) λ_=>Wa (λ_=>Wb rfl) λ_=>?_
   rw[zFW];have:=zYU l λr hr=>zU3 (t1 r hr) (g1 r hr)
   have hu:(uv l.length).length<=10:=zKr (by omega)
   obtain⟨_,p1,x,rfl,E⟩:=zV2 (uv l.length++zEu l) (uv m.length++zEu m) (by rw[QH];omega)
   obtain⟨_,p2,y,rfl,D⟩:=zXQ l m t1 t2 A;refine qk_b p1 (qk_b p2 (Wb ?_))
   have j:x=y:=by
    have:(x=true)↔(y=true):=E.trans (Iff.trans ⟨λh=>zaV (λr hr=>⟨t1 r hr,g1 r hr⟩) (λr hr=>⟨t2 r hr,g2 r hr⟩) h,λh=>by rw[h]⟩ D.symm)
    cases x<;>cases y<;>simp_all
   subst j;show AV.bool (x==x)=_
   simp
def zXR:List CD:=[.int .i64,.str,.str,.int .i64,.int .i64,.int .i64]
def zXS:List CD:=[.str,.str]
def zOL:List CD:=[.int .i64,.str,.int .i64,.int .i64,.int .i64,.int .i64,.int .i64,.sl zXS false,.int .i64,.str,.str,.int .i64,.int .i64,.int .i64,.str,.int .i64,.int .i64,.int .i64,.int .i64,.sl zXR false,.int .i64,.str,.int .i64,.str,.int .i64,.str,.str,.int .u64,.int .u64,.int .i64,.bool]
section
variable{N:Nat}
theorem zEC{a:AV}(h:CD.Ok N .str a):∃s,a=.str s/\s.length<=N/\∀c∈s,c<256:=by cases h with|str l h hl e=>exact⟨l,rfl,e,h⟩
theorem zAW{a:AV}(h:CD.Ok N (.int .i64) a):∃n,a=.int .i64 n/\i64 n:=by cases h with|int k n h=>exact⟨n,rfl,h.1,h.2⟩
theorem zU6{a:AV}(h:CD.Ok N (.int .u64) a):∃n,a=.int .u64 n/\u64 n:=by cases h with|int k n h=>exact⟨n,rfl,h.1,Int.lt_of_le_of_lt h.2 (by decide)⟩
theorem zaW{a:AV}(h:CD.Ok N .bool a):∃b,a=.bool b:=by cases h with|bool b=>exact⟨b,rfl⟩
theorem zD{c:CD}{cs:List CD}{l:JE}(h:CD.wZ N (c::cs) l):∃a r,l=a::r/\CD.Ok N c a/\CD.wZ N cs r:=by cases h with|cons h e=>exact⟨_,_,rfl,h,e⟩
theorem zNX{l:JE}(h:CD.wZ N [] l):l=[]:=by cases h;rfl
theorem zV5{es:List CD}{a:AV}(h:CD.Ok N (.sl es false) a):∃xs:List JE,a=.qd es.length (xs.map .agg)/\(∀x∈xs,CD.wZ N es x)/\xs.length<=N:=by cases h with|agg es xs h e=>exact⟨xs,rfl,h,e⟩
theorem zbV{a:AV}(M:N<=2000000)(h:CD.Ok N (.sl zXR false) a):∃r,a=.qd 6 r/\NdB r:=by
 obtain⟨J,rfl,h1,h2⟩:=zV5 h;refine⟨_,rfl,λe F=>?_,by rw[QG];omega⟩
 obtain⟨x,D,rfl⟩:=QO.1 F;have h:=h1 x D;obtain⟨_,_,rfl,j,h⟩:=zD h;obtain⟨_,_,rfl,E,h⟩:=zD h;obtain⟨_,_,rfl,A,h⟩:=zD h;obtain⟨_,_,rfl,H,h⟩:=zD h;obtain⟨_,_,rfl,B,h⟩:=zD h;obtain⟨_,_,rfl,C,h⟩:=zD h;obtain rfl:=zNX h;obtain⟨k,rfl,_⟩:=zAW j;obtain⟨s,rfl,K,z⟩:=zEC E;obtain⟨t,rfl,I,t8⟩:=zEC A;obtain⟨n,rfl,g⟩:=zAW H;obtain⟨l,rfl,_⟩:=zAW B;obtain⟨r,rfl,_⟩:=zAW C;exact⟨k,s,t,n,l,r,rfl,g.1,g.2,⟨by omega,z⟩,⟨by omega,t8⟩⟩
theorem zbW{a:AV}(C:N<=2000000)(h:CD.Ok N (.sl zXS false) a):∃l,a=.qd 2 l/\Ats l:=by
 obtain⟨B,rfl,h1,h2⟩:=zV5 h;refine⟨_,rfl,λe z=>?_,by rw[QG];omega⟩
 obtain⟨x,A,rfl⟩:=QO.1 z;have h:=h1 x A;obtain⟨_,_,rfl,g,h⟩:=zD h;obtain⟨_,_,rfl,j,h⟩:=zD h;obtain rfl:=zNX h;obtain⟨s,rfl,_⟩:=zEC g;obtain⟨t,rfl,_⟩:=zEC j;exact⟨s,t,rfl⟩
theorem zU7{α:Type}{av:α->AV}{Q:α->Prop}{es:List CD}:∀{xs:List JE},(∀x∈xs,CD.wZ N es x)->(∀x,CD.wZ N es x->∃u,AV.agg x=av u/\Q u)->∃l:List α,xs.map AV.agg=l.map av/\l.length=xs.length/\∀u∈l,Q u
 |[],_,_=>⟨[],rfl,rfl,λv hv=>by cases hv⟩
 |x::xs,h,k=>by
  obtain⟨l,h1,h2,h3⟩:=zU7 (λy g=>h y (.tail _ g)) k
  obtain⟨u,e,q⟩:=k x (h x (.head _));refine⟨u::l,by rw[QZ,QZ,h1,e],by rw[QR,QR,h2],λv hv=>?_⟩
  rcases QI.1 hv with rfl|hv
  .exact q
  .exact h3 v hv
theorem zU8{a:AV}(g:N<=2000000)(h:CD.Ok N (.sl zOL false) a):∃l:List Rc,a=.qd 31 (l.map Rc.av)/\l.length<=2000000/\∀r∈l,Ty0 r:=by
 obtain⟨xs,rfl,h1,h2⟩:=zV5 h;obtain⟨l,e,hl,hq⟩:=zU7 (av:=Rc.av) (Q:=Ty0) h1 λx h=>by
  obtain⟨_,_,rfl,k1,h⟩:=zD h;obtain⟨_,_,rfl,k2,h⟩:=zD h;obtain⟨_,_,rfl,k3,h⟩:=zD h;obtain⟨_,_,rfl,k4,h⟩:=zD h;obtain⟨_,_,rfl,k5,h⟩:=zD h;obtain⟨_,_,rfl,k6,h⟩:=zD h;obtain⟨_,_,rfl,k7,h⟩:=zD h;obtain⟨_,_,rfl,k8,h⟩:=zD h;obtain⟨_,_,rfl,k9,h⟩:=zD h;obtain⟨_,_,rfl,S,h⟩:=zD h;obtain⟨_,_,rfl,V,h⟩:=zD h;obtain⟨_,_,rfl,af,h⟩:=zD h;obtain⟨_,_,rfl,Y,h⟩:=zD h;obtain⟨_,_,rfl,H,h⟩:=zD h;obtain⟨_,_,rfl,O,h⟩:=zD h;obtain⟨_,_,rfl,U,h⟩:=zD h;obtain⟨_,_,rfl,ae,h⟩:=zD h;obtain⟨_,_,rfl,aa,h⟩:=zD h;obtain⟨_,_,rfl,ad,h⟩:=zD h;obtain⟨_,_,rfl,B,h⟩:=zD h;obtain⟨_,_,rfl,ah,h⟩:=zD h;obtain⟨_,_,rfl,D,h⟩:=zD h;obtain⟨_,_,rfl,W,h⟩:=zD h;obtain⟨_,_,rfl,C,h⟩:=zD h;obtain⟨_,_,rfl,j,h⟩:=zD h;obtain⟨_,_,rfl,E,h⟩:=zD h;obtain⟨_,_,rfl,aj,h⟩:=zD h;obtain⟨_,_,rfl,M,h⟩:=zD h;obtain⟨_,_,rfl,s,h⟩:=zD h;obtain⟨_,_,rfl,ab,h⟩:=zD h;obtain⟨_,_,rfl,I,h⟩:=zD h;obtain rfl:=zNX h;obtain⟨x1,rfl,q1⟩:=zAW k1;obtain⟨x2,rfl,q2,_⟩:=zEC k2;obtain⟨x3,rfl,q3⟩:=zAW k3;obtain⟨x4,rfl,q4⟩:=zAW k4;obtain⟨x5,rfl,q5⟩:=zAW k5;obtain⟨x6,rfl,q6⟩:=zAW k6;obtain⟨x7,rfl,q7⟩:=zAW k7;obtain⟨x8,rfl,q8⟩:=zbW g k8;obtain⟨x9,rfl,q9⟩:=zAW k9;obtain⟨x10,rfl,a7,_⟩:=zEC S;obtain⟨x11,rfl,a6,_⟩:=zEC V;obtain⟨x12,rfl,ao⟩:=zAW af;obtain⟨x13,rfl,az⟩:=zAW Y;obtain⟨x14,rfl,ak⟩:=zAW H;obtain⟨x15,rfl,ay,_⟩:=zEC O;obtain⟨x16,rfl,au⟩:=zAW U;obtain⟨x17,rfl,ax⟩:=zAW ae;obtain⟨x18,rfl,aw⟩:=zAW aa;obtain⟨x19,rfl,aq⟩:=zAW ad;obtain⟨x20,rfl,z⟩:=zbV g B;obtain⟨x21,rfl,ar⟩:=zAW ah;obtain⟨x22,rfl,ac,_⟩:=zEC D;obtain⟨x23,rfl,X⟩:=zAW W;obtain⟨x24,rfl,A,_⟩:=zEC C;obtain⟨x25,rfl,ag⟩:=zAW j;obtain⟨x26,rfl,K,_⟩:=zEC E;obtain⟨x27,rfl,ai,_⟩:=zEC aj;obtain⟨x28,rfl,F⟩:=zU6 M;obtain⟨x29,rfl,J⟩:=zU6 s;obtain⟨x30,rfl,T⟩:=zAW ab;obtain⟨x31,rfl⟩:=zaW I;exact⟨⟨x1,x2,x3,x4,x5,x6,x7,x8,x9,x10,x11,x12,x13,x14,x15,x16,x17,x18,x19,x20,x21,x22,x23,x24,x25,x26,x27,x28,x29,x30,x31⟩,rfl,{ k:=q1,bd:=q3,ti:=X,bi:=ag,cd:=T,ic:=F,nu:=J,n:=Qe q2 g,m:=Qe K g,qY:=Qe ai g,tj:=Qe ac g,bj:=Qe A g,at_:=q8,sr:=z }⟩
 exact⟨l,by rw[e];rfl,by omega,hq⟩
end
theorem zbX{N:Nat}{x y:AV}(s:N<=2000000)(hx:CD.Ok N (.sl zOL false) x)(j:CD.Ok N (.sl zOL false) y):FnT Tryz.prog G0 4 [x,y] [] 0 (.bool true) [] 0:=by
 have A:=hx.pp;have C:=j.pp;obtain⟨l,rfl,e2,e3⟩:=zU8 s hx;obtain⟨m,rfl,e4,e5⟩:=zU8 s j;have e:=law l m e3 e5 e2 e4;have B:zBF Tryz.prog G0 4 (gV t145 1 4):=(t145.ok zp).at;refine(B _ _ (λz g=>?_) (by unfold zBC at e;exact e)).2.2 [] 0
 rcases QI.1 g with rfl|g
 .exact A
 .rw[QW.1 g];exact C
theorem zSd{v:Value}(h:v.oneCell'=true):v.cells.toList=[v]:=by cases v<;>first|rfl|cases h
def zQZ(H:Type):BK H:=⟨Rows.uptoBulk,Rows.uptoBulkAll,λ_=>rfl,λd=>by
 cases d with
 |lit l=>cases l<;>exact Qz _
 |_=>exact Qz _,λ_ _=>rfl,λ_=>rfl,rfl,λ_ _=>rfl⟩
omit [MX] in
theorem zU9:zP9 Tryz.prog 10 22=some [.sl zOL false]:=by kernel_rfl
end Go.Proofs.YtjfcepbllmdfcaaGreatDoor.record
