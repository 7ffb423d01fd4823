/- THE LAW OF THE LEAN FUNCTIONS, IN PLAIN LEAN: whatever the arguments, it says true. No condition. -/
import Derived.Test.YtcolommdbibghaaGreatDoorCanonHoldsS2
import Derived.Lib.ItoaNum
import Derived.Test.YtcolommdbibghaaGreatDoorRows
set_option linter.unusedVariables false
set_option linter.unusedSimpArgs false
set_option linter.unusedSectionVars false
open Int(ofNat)
theorem Wa:type_of% @Go.Sy.Wp.if:=@Go.Sy.Wp.if
theorem Wb:type_of% @Go.Sy.Wp.mk:=@Go.Sy.Wp.mk
theorem Wc:type_of% @Go.Sy.Wp.ite:=@Go.Sy.Wp.ite
theorem Wd:type_of% @Go.Sy.Wp.lt:=@Go.Sy.Wp.lt
theorem We:type_of% @Go.Sy.Wp.gd:=@Go.Sy.Wp.gd
namespace Go.Proofs.YtcolommdbibghaaGreatDoor.canon
open Go Go.Sy
abbrev nd6(k:Int)(s t:JV)(n l r:Int):AV:=.agg [.int .i64 k,.str s,.str t,.int .i64 n,.int .i64 l,.int .i64 r]
inductive RT where
 |leaf (k:Int) (a b:JV) (n:Int)
 |not (t:RT)
 |two (k:Int) (t u:RT)
namespace RT
def size:RT->Nat
 |.leaf ..=>1
 |.not t=>t.size+1
 |.two _ t u=>t.size+u.size+1
def fl:RT->Nat->List AV
 |.leaf k a b n,_=>[nd6 k a b n (Int.negSucc 0) (Int.negSucc 0)]
 |.not t,o=>t.fl o++[nd6 7 [] [] (ofNat 0) (ofNat (o+t.size-1)) (Int.negSucc 0)]
 |.two k t u,o=>t.fl o++u.fl (o+t.size)++[nd6 k [] [] (ofNat 0) (ofNat (o+t.size-1)) (ofNat (o+t.size+u.size-1))]
theorem size_pos:∀t:RT,0<t.size
 |.leaf ..=>Nat.one_pos
 |.not t=>Qw _
 |.two _ t u=>Qw _
theorem fl_length:∀(t:RT)(o:Nat),(t.fl o).length=t.size
 |.leaf ..,_=>rfl
 |.not t,o=>by rw[fl,QJ,fl_length t];rfl
 |.two _ t u,o=>by rw[fl,QJ,QJ,fl_length t,fl_length u];rfl
end RT
def zAP(c:Nat):Bool:=decide (97<=c/\c<=122)
def zE(c:Nat):Bool:=decide (48<=c/\c<=57)
def namB(c:Nat):Bool:=zAP c||(zE c||c==45)
def wrdB(c:Nat):Bool:=decide (97<=c/\c<=122\/65<=c/\c<=90\/48<=c/\c<=57\/c=45\/c=95\/c=46)
def rn(f:Nat->Bool)(s:List Nat)(i:Nat):Nat:=((s.drop i).takeWhile f).length
def isAt(f:Nat->Bool)(s:List Nat)(i:Nat):Bool:=match s[i]? with
 |some c=>f c
 |none=>false
def sk(s:List Nat)(i:Nat):Nat:=i+rn (·==32) s i
def cutS(s:List Nat)(i j:Nat):List Nat:=List.drop i (List.take j s)
theorem zLm{f:Nat->Bool}{s:List Nat}{i:Nat}(h:isAt f s i=true):rn f s i=rn f s (i+1)+1:=by
 unfold isAt at h;unfold rn;cases hc:s[i]? with
 |none=>rw[hc]at h;cases h
 |some c=>
  rw[hc]at h;obtain⟨a,rfl⟩:=QC.1 hc;have h:f s[i]=true:=h;rw[Qd a,List.takeWhile_cons_of_pos h];rfl
theorem zLn{f:Nat->Bool}{s:List Nat}{i:Nat}(h:isAt f s i=false):rn f s i=0:=by
 unfold isAt at h;unfold rn;cases hc:s[i]? with
 |none=>rw[Qu (List.getElem?_eq_none_iff.1 hc)];rfl
 |some c=>
  rw[hc]at h;obtain⟨a,rfl⟩:=QC.1 hc;have h:f s[i]=false:=h;rw[Qd a,List.takeWhile_cons_of_neg (by rw[h];decide)]
  rfl
theorem zHg{f:Nat->Bool}{s:List Nat}{i:Nat}(h:isAt f s i=true):i<s.length:=by
 unfold isAt at h;cases hc:s[i]? with
 |none=>rw[hc]at h;cases h
 |some c=>exact(QC.1 hc).1
theorem zCF{f:Nat->Bool}{s:List Nat}{i:Nat}(h:i<s.length):isAt f s i=f s[i]:=by
 unfold isAt;rw[QE h]
theorem zCX{f:Nat->Bool}{s:List Nat}{i:Nat}(h:s.length<=i):isAt f s i=false:=by
 unfold isAt;rw[List.getElem?_eq_none h]
theorem zE0(f:Nat->Bool)(s:List Nat)(i:Nat)(h:i<=s.length):i+rn f s i<=s.length:=by
 have:rn f s i<=(s.drop i).length:=(List.takeWhile_sublist f).length_le;rw[Qv]at this;omega
theorem zMO(f:Nat->Bool)(s:List Nat):∀(m i:Nat),s.length-i<=m->isAt f s (i+rn f s i)=false:=by
 intro m
 induction m with
 |zero=>
  intro i h;exact zCX (by omega)
 |succ m a=>
  intro i h;by_cases hc:isAt f s i=true
  .have:=zHg hc;rw[zLm hc];have:=a (i+1) (by omega)
   rwa [show i+1+rn f s (i+1)=i+(rn f s (i+1)+1) by omega]at this
  .have hc:isAt f s i=false:=by simpa using hc
   rw[zLn hc];exact hc
theorem zKn{f:Nat->Bool}{s:List Nat}:∀(k i:Nat),k<rn f s i->isAt f s (i+k)=true:=by
 intro k
 induction k with
 |zero=>
  intro i h;cases hc:isAt f s i with
  |true=>rfl
  |false=>rw[zLn hc]at h;omega
 |succ k a=>
  intro i h;cases hc:isAt f s i with
  |true=>
   rw[zLm hc]at h;have:=a (i+1) (by omega)
   rwa [show i+1+k=i+(k+1) by omega]at this
  |false=>rw[zLn hc]at h;omega
theorem zGi(s:List Nat)(i:Nat):i<=sk s i:=Qt _ _
theorem zBw{s:List Nat}{i:Nat}(h:i<=s.length):sk s i<=s.length:=zE0 _ s i h
theorem zYb(s:List Nat)(i:Nat):isAt (·==32) s (sk s i)=false:=zMO _ s _ i (QA _)
theorem zGj{s:List Nat}{i:Nat}(h:isAt (·==32) s i=false):sk s i=i:=by unfold sk;rw[zLn h];rfl
theorem zAt(s:List Nat)(i:Nat):sk s (sk s i)=sk s i:=zGj (zYb s i)
abbrev RE(α:Type):=Except (Int×Int) α
def zER(l:List Nat):Nat:=l.foldl (λx c=>10*x+(c-48)) 0
def zIW(s:List Nat)(i:Nat):RE (Nat×List Nat):=
 if rn wrdB s (sk s i)=0 then .error (5,ofNat (sk s i))else if 32<rn wrdB s (sk s i)then .error (5,ofNat (sk s i+32))else .ok (sk s i+rn wrdB s (sk s i),cutS s (sk s i) (sk s i+rn wrdB s (sk s i)))
def zHh(s:List Nat)(i:Nat):RE (Nat×Int):=
 if isAt wrdB s (sk s i+min 12 (rn zE s (sk s i)))=true then .error (5,ofNat (sk s i+min 12 (rn zE s (sk s i))))else
 if rn zE s (sk s i)=0 then .error (5,ofNat (sk s i))else .ok (sk s i+min 12 (rn zE s (sk s i)),ofNat (zER (cutS s (sk s i) (sk s i+min 12 (rn zE s (sk s i))))))
def zFx(s:List Nat)(i n:Nat)(k:Int)(a:List Nat):RE (Nat×Nat×RT):=match zIW s i with
 |.error e=>.error e
 |.ok (j,v)=>.ok (j,n+1,.leaf k a v 0)
def zFy(s:List Nat)(i n:Nat)(k:Int)(a:List Nat):RE (Nat×Nat×RT):=match zHh s i with
 |.error e=>.error e
 |.ok (j,x)=>.ok (j,n+1,.leaf k a [] x)
def zBx(s:List Nat)(j n:Nat)(a:List Nat):RE (Nat×Nat×RT):=
 if s[j]?=some 61 then zFx s (j+1) n 2 a else
 if s[j]?=some 33/\s[j+1]?=some 61 then zFx s (j+2) n 3 a else
 if s[j]?=some 62/\s[j+1]?=some 61 then zFy s (j+2) n 4 a else
 if s[j]?=some 60/\s[j+1]?=some 61 then zFy s (j+2) n 5 a else
 if s[j]?=some 33\/s[j]?=some 62\/s[j]?=some 60 then .error (5,ofNat (j+1))else .ok (j,n+1,.leaf 6 a [] 0)
def zBQ(s:List Nat)(i n:Nat):RE (Nat×Nat×RT):=
 if isAt zAP s i=false then .error (5,ofNat i)else
 if isAt wrdB s (i+min 24 (rn namB s i))=true then .error (5,ofNat (i+min 24 (rn namB s i)))else
 if 64<n+1 then .error (3,ofNat i)else
 if cutS s i (i+min 24 (rn namB s i))=[97,110,121]then .ok (i+min 24 (rn namB s i),n+1,.leaf 1 [] [] 0)else
 zBx s (sk s (i+min 24 (rn namB s i))) n (cutS s i (i+min 24 (rn namB s i)))
abbrev Rd:=Nat->Nat->RE (Nat×Nat×RT)
def zDw(next:Rd)(s:List Nat)(sg:Nat)(k:Int):Nat->Nat->Nat->RT->RE (Nat×Nat×RT)
 |0,i,n,t=>.ok (i,n,t)
 |m+1,i,n,t=>if s[sk s i]?=some sg then
   if 64<n+1 then .error (3,ofNat (sk s i))else match next (sk s i+1) (n+1)with
    |.error e=>.error e
    |.ok (b,a,u)=>zDw next s sg k m b a (.two k t u)
  else .ok (sk s i,n,t)
def zBn(next:Rd)(s:List Nat)(sg:Nat)(k:Int):Rd:=λi n=>match next i n with
 |.error e=>.error e
 |.ok (b,a,t)=>zDw next s sg k 65 b a t
def zKo(s:List Nat)(r:RE (Nat×Nat×RT)):RE (Nat×Nat×RT):=match r with
 |.error e=>.error e
 |.ok (i,n,t)=>if s[sk s i]?=some 41 then .ok (sk s i+1,n,t)else .error (5,ofNat (sk s i))
def notM(r:RE (Nat×Nat×RT)):RE (Nat×Nat×RT):=match r with
 |.error e=>.error e
 |.ok (i,n,t)=>.ok (i,n,.not t)
def zC4(s:List Nat):Nat->Rd
 |0,i,n=>if s[sk s i]?=some 33\/s[sk s i]?=some 40 then .error (3,ofNat (sk s i))else zBQ s (sk s i) n
 |g+1,i,n=>if s[sk s i]?=some 33 then
   if 64<n+1 then .error (3,ofNat (sk s i))else notM (zC4 s g (sk s i+1) (n+1))
  else if s[sk s i]?=some 40 then zKo s (zBn (zBn (zC4 s g) s 38 8) s 124 9 (sk s i+1) n)
  else zBQ s (sk s i) n
abbrev andM(s:List Nat)(g:Nat):Rd:=zBn (zC4 s g) s 38 8
abbrev orM(s:List Nat)(g:Nat):Rd:=zBn (andM s g) s 124 9
def RT.tg:RT->Int
 |.two k _ _=>if k=9 then 0 else if k=8 then 1 else 2
 |_=>2
def decI(n:Int):List Nat:=(Lib.itoa n).map UInt8.toNat
def zC5(k:Int)(a b:List Nat)(n:Int):List Nat:=
 if k=1 then[97,110,121]else if k=2 then a++[61]++b else if k=3 then a++[33,61]++b else if k=4 then a++[62,61]++decI n else if k=5 then a++[60,61]++decI n else a
def parT(g m:Int)(s:List Nat):List Nat:=if g<m then[40]++s++[41]else s
def RT.told:RT->List Nat
 |.leaf k a b n=>zC5 k a b n
 |.not t=>[33]++parT t.tg 2 t.told
 |.two k t u=>if k=8 then parT t.tg 1 t.told++[32,38,32]++parT u.tg 2 u.told else parT t.tg 0 t.told++[32,124,32]++parT u.tg 1 u.told
def zBE(s:List Nat):RE RT:=
 if 1024<s.length then .error (3,Int.negSucc 0)else match orM s 32 0 0 with
  |.error e=>.error e
  |.ok (i,n,t)=>if sk s i<s.length then .error (5,ofNat (sk s i))else if 1024<t.told.length then .error (3,Int.negSucc 0)else .ok t
theorem zV4{x y:Nat}:((ofNat x==ofNat y)=true)↔x=y:=by
 rw[beq_iff_eq];exact Int.ofNat_inj
theorem zWp{x y:Nat}:((ofNat x==ofNat y)=false)↔x≠y:=by
 rw[beq_eq_false_iff_ne];exact not_congr Int.ofNat_inj
def zKp(m:Nat)(a:List Nat):Prop:=a.length<=m/\isAt zAP a 0=true/\∀c∈a,namB c=true
def zPX(a:List Nat):Prop:=a≠[]/\a.length<=32/\∀c∈a,wrdB c=true
def zPY(k:Int)(a b:List Nat)(n:Int):Prop:=
 k=1/\a=[]/\b=[]/\n=0\/zKp 24 a/\a≠[97,110,121]/\((k=2\/k=3)/\zPX b/\n=0\/(k=4\/k=5)/\b=[]/\0<=n/\n<=999999999999\/k=6/\b=[]/\n=0)
def RT.wf:RT->Prop
 |.leaf k a b n=>zPY k a b n
 |.not t=>t.wf
 |.two k t u=>(k=8\/k=9)/\t.wf/\u.wf
def zMD(s:List Nat)(next:Rd):Prop:=∀i n b a t,i<=s.length->n<=64->next i n=.ok (b,a,t)->i<b/\b<=s.length/\a=n+t.size/\a<=64/\t.wf
theorem zGX{s:List Nat}{i c:Nat}(h:s[i]?=some c):i<s.length:=(QC.1 h).1
theorem zEj{s:List Nat}{i k:Nat}(h:i+k<=s.length):(cutS s i (i+k)).length=k:=by
 unfold cutS;rw[Qv,Qm];omega
theorem zWK{s:List Nat}{i k j:Nat}(h:i+k<=s.length)(a:j<k):(cutS s i (i+k))[j]? = s[i+j]?:=by
 unfold cutS;rw[List.getElem?_drop,List.getElem?_take_of_lt (by omega)]
theorem zOF{f:Nat->Bool}{s:List Nat}{i k j:Nat}(h:i+k<=s.length)(a:j<k):isAt f (cutS s i (i+k)) j=isAt f s (i+j):=by
 unfold isAt;rw[zWK h a]
theorem zJj{f:Nat->Bool}{s:List Nat}{i k:Nat}(h:i+k<=s.length)(hk:k<=rn f s i):∀c∈cutS s i (i+k),f c=true:=by
 intro c hc;obtain⟨j,b⟩:=List.getElem?_of_mem hc;have a:j<k:=by have:=zGX b;rwa [zEj h]at this
 have h1:=zKn (f:=f) (s:=s) j i (by omega)
 rw[←zOF h a]at h1;unfold isAt at h1;rw[b]at h1;exact h1
theorem zR5:∀(l:List Nat)(x b:Nat),(∀c∈l,zE c=true)->x<b->l.foldl (λx c=>10*x+(c-48)) x<b*10 ^ l.length
 |[],x,b,_,h=>by simpa using h
 |c::r,x,b,h,a=>by
  have hc:zE c=true:=h c (.head _);unfold zE at hc;have hc:=Qc hc;have:=zR5 r (10*x+(c-48)) (b*10) (λc hc=>h c (.tail _ hc)) (by omega)
  show r.foldl _ (10*x+(c-48))<_
  rw[QZ,Nat.pow_succ]
  calc _<b*10*10 ^ r.length:=this
   _=b*(10 ^ r.length*10):=by rw[Nat.mul_assoc,Nat.mul_comm 10]
theorem zR6{l:List Nat}(h:∀c∈l,zE c=true)(a:l.length<=12):zER l<=999999999999:=by
 have h1:=zR5 l 0 1 h (by omega)
 have b:10 ^ l.length<=10 ^ 12:=Nat.pow_le_pow_right (by omega) a
 have d:(10:Nat) ^ 12=1000000000000:=by decide
 have h1:zER l<1*10 ^ l.length:=h1;omega
theorem zTM{s:List Nat}{i j:Nat}{v:List Nat}(d:i<=s.length)(h:zIW s i=.ok (j,v)):i<j/\j<=s.length/\zPX v:=by
 unfold zIW at h;split at h
 .cases h
 .rename_i b;split at h
  .cases h
  .rename_i h1;cases h;have a:=zE0 wrdB s (sk s i) (zBw d);have g:=zGi s i;refine⟨by omega,a,λe=>?_,?_,zJj a (QA _)⟩
   .have:=zEj a;rw[e]at this;exact b this.symm
   .rw[zEj a];omega
theorem zSR{s:List Nat}{i j:Nat}{x:Int}(b:i<=s.length)(h:zHh s i=.ok (j,x)):i<j/\j<=s.length/\0<=x/\x<=999999999999:=by
 unfold zHh at h;split at h
 .cases h
 .split at h
  .cases h
  .rename_i h1;cases h;have d:=zE0 zE s (sk s i) (zBw b);have g:=zGi s i;have a:sk s i+min 12 (rn zE s (sk s i))<=s.length:=by omega
   have e:=zR6 (zJj a (Nat.min_le_right _ _)) (by rw[zEj a];exact Nat.min_le_left _ _)
   refine⟨by omega,a,Qf _,?_⟩
   rw[QB];omega
theorem zPZ{s:List Nat}{i n b n':Nat}{k:Int}{a:List Nat}{t:RT}(hk:k=2\/k=3)(d:zKp 24 a/\a≠[97,110,121])(q:i<=s.length)(h:zFx s i n k a=.ok (b,n',t)):i<b/\b<=s.length/\n'=n+t.size/\t.wf:=by
 unfold zFx at h;split at h
 .cases h
 .rename_i j v e;cases h;obtain⟨h1,g,p⟩:=zTM q e;exact⟨h1,g,rfl,.inr ⟨d.1,d.2,.inl ⟨hk,p,rfl⟩⟩⟩
theorem zP0{s:List Nat}{i n b n':Nat}{k:Int}{a:List Nat}{t:RT}(hk:k=4\/k=5)(d:zKp 24 a/\a≠[97,110,121])(q:i<=s.length)(h:zFy s i n k a=.ok (b,n',t)):i<b/\b<=s.length/\n'=n+t.size/\t.wf:=by
 unfold zFy at h;split at h
 .cases h
 .rename_i j v e;cases h;obtain⟨h1,g,p⟩:=zSR q e;exact⟨h1,g,rfl,.inr ⟨d.1,d.2,.inr (.inl ⟨hk,rfl,p⟩)⟩⟩
theorem zVd{s:List Nat}{i n e n':Nat}{a:List Nat}{t:RT}(d:zKp 24 a/\a≠[97,110,121])(g:i<=s.length)(h:zBx s i n a=.ok (e,n',t)):i<=e/\e<=s.length/\n'=n+t.size/\t.wf:=by
 unfold zBx at h;have lt:∀{a b c:Nat}{p:Prop},a+b<c/\p->a<=c/\p:=λh=>⟨by omega,h.2⟩
 split at h
 .rename_i h1;exact lt (zPZ (.inl rfl) d (zGX h1) h)
 split at h
 .rename_i h1;exact lt (zPZ (.inr rfl) d (zGX h1.2) h)
 split at h
 .rename_i h1;exact lt (zP0 (.inl rfl) d (zGX h1.2) h)
 split at h
 .rename_i h1;exact lt (zP0 (.inr rfl) d (zGX h1.2) h)
 split at h
 .cases h
 .cases h;exact⟨QA _,g,rfl,.inr ⟨d.1,d.2,.inr (.inr ⟨rfl,rfl,rfl⟩)⟩⟩
theorem zTN{c:Nat}(h:zAP c=true):namB c=true:=by unfold namB;rw[h];rfl
theorem zP1(s:List Nat):zMD s (zBQ s):=by
 intro i n A q t g y h;unfold zBQ at h;split at h
 .cases h
 rename_i h1;have h1:isAt zAP s i=true:=by simpa using h1
 have d:=zHg h1;split at h
 .cases h
 split at h
 .cases h
 rename_i r w;have v:1<=rn namB s i:=by
  rw[zLm (f:=namB) (s:=s) (i:=i)]
  .omega
  .unfold isAt at h1⊢;split at h1
   .exact zTN h1
   .cases h1
 have p:=zE0 namB s i g;have a:i+min 24 (rn namB s i)<=s.length:=by omega
 split at h
 .rename_i b;cases h;exact⟨by omega,a,rfl,by omega,.inl ⟨rfl,rfl,rfl,rfl⟩⟩
 .rename_i b;have k:zKp 24 (cutS s i (i+min 24 (rn namB s i))):=by
   refine⟨by rw[zEj a];omega,?_,zJj a (Nat.min_le_right _ _)⟩
   rw[zOF a (by omega)]
   exact h1
  obtain⟨u,j,e,h8⟩:=zVd ⟨k,b⟩ (zBw a) h;have:=zGi s (i+min 24 (rn namB s i));have z:t.size=1:=by
   cases t with
   |leaf=>rfl
   |_=>
    exfalso
    unfold zBx zFx zFy at h
    repeat' split at h
    all_goals cases h
  refine⟨by omega,j,e,by omega,h8⟩
theorem zVe{s:List Nat}{next:Rd}{sg:Nat}{k:Int}(B:zMD s next)(hk:k=8\/k=9):∀(m i n:Nat)(t:RT)(b n':Nat)(a:RT),i<=s.length->n<=64->t.wf->zDw next s sg k m i n t=.ok (b,n',a)->i<=b/\b<=s.length/\n'+t.size=n+a.size/\n'<=64/\a.wf:=by
 intro m
 induction m with
 |zero=>
  intro i n t b n' a g j d h;cases h;exact⟨QA _,g,rfl,j,d⟩
 |succ m z=>
  intro i n t b n' a g j d h;rw[zDw]at h;split at h
  .rename_i hc;split at h
   .cases h
   .split at h
    .cases h
    .rename_i i1 A u w;have hc:=zGX hc;obtain⟨h1,p,C,q,v⟩:=B _ _ _ _ _ (by omega) (by omega) w
     obtain⟨D,r,h8,y,e⟩:=z i1 A (.two k t u) b n' a p q ⟨hk,d,v⟩ h;have:=zGi s i;refine⟨by omega,r,?_,y,e⟩
     have:(RT.two k t u).size=t.size+u.size+1:=rfl;omega
  .cases h;exact⟨zGi s i,zBw g,rfl,j,d⟩
theorem zId{s:List Nat}{next:Rd}{sg:Nat}{k:Int}(b:zMD s next)(hk:k=8\/k=9):zMD s (zBn next s sg k):=by
 intro i n z d t q v h;unfold zBn at h;split at h
 .cases h
 .rename_i i1 y u r;obtain⟨h1,e,A,g,p⟩:=b _ _ _ _ _ q v r;obtain⟨B,j,h8,w,a⟩:=zVe b hk 65 i1 y u z d t e g p h;exact⟨by omega,j,by omega,w,a⟩
theorem zLo(s:List Nat):∀g,zMD s (zC4 s g):=by
 intro g
 induction g with
 |zero=>
  intro i n y v t j b h;rw[zC4]at h;split at h
  .cases h
  .have:=zGi s i;obtain⟨h1,a⟩:=zP1 s _ _ _ _ _ (zBw j) b h;exact⟨by omega,a⟩
 |succ g r=>
  intro i n y v t j b h;have:=zGi s i;rw[zC4]at h;split at h
  .rename_i hc;have hc:=zGX hc;split at h
   .cases h
   .unfold notM at h;split at h
    .cases h
    .rename_i i1 w u k;cases h;obtain⟨h1,a,p,d,e⟩:=r _ _ _ _ _ (by omega) (by omega) k
     have:(RT.not u).size=u.size+1:=rfl;exact⟨by omega,a,by omega,d,e⟩
  split at h
  .rename_i hc;have hc:=zGX hc;unfold zKo at h;split at h
   .cases h
   .rename_i i1 w u k;split at h
    .rename_i q;have q:=zGX q;cases h;obtain⟨h1,a,p,d,e⟩:=zId (zId r (.inl rfl)) (.inr rfl) _ _ _ _ _ (by omega) b k
     have:=zGi s i1;exact⟨by omega,by omega,p,d,e⟩
    .cases h
  .obtain⟨h1,a⟩:=zP1 s _ _ _ _ _ (zBw j) b h;exact⟨by omega,a⟩
theorem zNY(s:List Nat)(g:Nat):zMD s (andM s g):=zId (zLo s g) (.inl rfl)
theorem zP2(s:List Nat)(g:Nat):zMD s (orM s g):=zId (zNY s g) (.inr rfl)
theorem zIe{s:List Nat}{t:RT}(h:zBE s=.ok t):t.wf/\t.size<=64/\t.told.length<=1024:=by
 unfold zBE at h;split at h
 .cases h
 split at h
 .cases h
 rename_i i n u b;split at h
 .cases h
 split at h
 .cases h
 cases h;obtain⟨_,_,e,d,a⟩:=zP2 s 32 _ _ _ _ _ (QV _) (by omega) b
 exact⟨a,by omega,by omega⟩
theorem zNZ{β:Type}{wk:Bool}{P:β->Prop}{f:(Int)->(List Nat)->(List Nat)->(Int)->(Int)->(Int)->(List AV)->Option β}{o:Option (AV)}{x3:Int}{x4:List Nat}{x5:List Nat}{x6:Int}{x7:Int}{x8:Int}{a:List AV}(h:o=some (.qc (.agg [.int .i64 x3,.str x4,.str x5,.int .i64 x6,.int .i64 x7,.int .i64 x8,.qo 1 a]) 0))(k:Wp (f x3 x4 x5 x6 x7 x8 a) P):Wp (dK wk yi o f) P:=by
 subst h;exact k
theorem zCA{β:Type}{wk:Bool}{P:β->Prop}{f:(Int)->Option β}{o:Option (AV)}{x1:Int}(h:o=some (.int .i64 x1))(k:Wp (f x1) P):Wp (dK wk [K.i .i64] o f) P:=by
 subst h;exact k
theorem zEV{β:Type}{wk:Bool}{P:β->Prop}{f:(Int)->(List Nat)->(List Nat)->(Int)->(Int)->(Int)->Option β}{o:Option (AV)}{a:Int}{x3:List Nat}{x4:List Nat}{x5:Int}{x6:Int}{x7:Int}(h:o=some (.agg [.int .i64 a,.str x3,.str x4,.int .i64 x5,.int .i64 x6,.int .i64 x7]))(k:Wp (f a x3 x4 x5 x6 x7) P):Wp (dK wk yk o f) P:=by
 subst h;exact k
theorem qk_s{β:Type}{wk:Bool}{P:β->Prop}{f:(List Nat)->Option β}{o:Option (AV)}{x1:List Nat}(h:o=some (.str x1))(k:Wp (f x1) P):Wp (dK wk [K.s] o f) P:=by
 subst h;exact k
theorem qk_b{β:Type}{wk:Bool}{P:β->Prop}{f:(Bool)->Option β}{o:Option (AV)}{x1:Bool}(h:o=some (.bool x1))(k:Wp (f x1) P):Wp (dK wk [K.b] o f) P:=by
 subst h;exact k
theorem zR7{β:Type}{wk:Bool}{P:β->Prop}{f:(Int)->(AV)->Option β}{o:Option (AV)}{a:Int}{x3:AV}(h:o=some (.qg [.int .i64 a,x3]))(k:Wp (f a x3) P):Wp (dK wk [K.qg 2,K.i .i64,K.av] o f) P:=by
 subst h;exact k
theorem zGN{β:Type}{wk:Bool}{P:β->Prop}{f:(List AV)->(Int)->(Int)->Option β}{o:Option (AV)}{x3:List AV}{x5:Int}{x6:Int}(h:o=some (.qg [.agg [.qo 6 x3],.agg [.int .i64 x5,.int .i64 x6]]))(k:Wp (f x3 x5 x6) P):Wp (dK wk yn o f) P:=by
 subst h;exact k
theorem zR8{β:Type}{wk:Bool}{P:β->Prop}{f:(List Nat)->(Int)->Option β}{o:Option (AV)}{a:List Nat}{x3:Int}(h:o=some (.qg [.str a,.int .i64 x3]))(k:Wp (f a x3) P):Wp (dK wk yw o f) P:=by
 subst h;exact k
theorem zSS{β:Type}{wk:Bool}{P:β->Prop}{f:(List AV)->Option β}{o:Option (AV)}{x1:List AV}(h:o=some (.qo 1 x1))(k:Wp (f x1) P):Wp (dK wk [K.l 1] o f) P:=by
 subst h;exact k
theorem zFz{β:Type}{wk:Bool}{P:β->Prop}{f:(List AV)->(Int)->Option β}{o:Option (AV)}{x3:List AV}{x4:Int}(h:o=some (.qg [.agg [.qo 6 x3],.int .i64 x4]))(k:Wp (f x3 x4) P):Wp (dK wk yp o f) P:=by
 subst h;exact k
theorem zV5{β:Type}{wk:Bool}{P:β->Prop}{f:(Int)->Option β}{o:Option (AV)}{x1:Int}(h:o=some (.int .u8 x1))(k:Wp (f x1) P):Wp (dK wk [K.i .u8] o f) P:=by
 subst h;exact k
theorem zWL{β:Type}{wk:Bool}{P:β->Prop}{f:(List Nat)->(List Nat)->Option β}{o:Option (AV)}{a:List Nat}{x3:List Nat}(h:o=some (.agg [.str a,.str x3]))(k:Wp (f a x3) P):Wp (dK wk yq o f) P:=by
 subst h;exact k
theorem zN0{β:Type}{wk:Bool}{P:β->Prop}{f:(Bool)->(Int)->Option β}{o:Option (AV)}{a:Bool}{x3:Int}(h:o=some (.qg [.bool a,.int .i64 x3]))(k:Wp (f a x3) P):Wp (dK wk yu o f) P:=by
 subst h;exact k
theorem zDx{β:Type}{wk:Bool}{P:β->Prop}{f:(Int)->(List AV)->Option β}{o:Option (AV×Heap×Vecs)}{x3:Int}{x4:List AV}(h:o=some (.qg [AV.sym 0,.int .i64 x3],[],[(0,.vec 6 x4)]))(k:Wp (f x3 x4) P):Wp (dD wk [.v (.qg 2),.v (.c (AV.sym 0)),.v (.i .i64),.vec 0 6] o f) P:=by
 subst h;exact k
theorem zF1{β:Type}{wk:Bool}{P:β->Prop}{f:(List AV)->Option β}{o:Option (AV×Heap×Vecs)}{a:List AV}(h:o=some (AV.sym 0,[],[(0,.vec 1 a)]))(k:Wp (f a) P):Wp (dD wk [.v (.c (AV.sym 0)),.vec 0 1] o f) P:=by
 subst h;exact k
theorem zP3{β:Type}{wk:Bool}{P:β->Prop}{f:(List AV)->Option β}{o:Option (AV×Heap×Vecs)}{a:List AV}(h:o=some (.qg [],[],[(0,.vec 1 a)]))(k:Wp (f a) P):Wp (dD wk yv o f) P:=by
 subst h;exact k
theorem zN1{β:Type}{wk:Bool}{P:β->Prop}{f:(Int)->(List Nat)->(List Nat)->(Int)->(Int)->(Int)->(List AV)->Option β}{o:Option (AV×Heap×Vecs)}{x3:Int}{x4:List Nat}{x5:List Nat}{x6:Int}{x7:Int}{x8:Int}{a:List AV}(h:o=some (.qc (.agg [.int .i64 x3,.str x4,.str x5,.int .i64 x6,.int .i64 x7,.int .i64 x8,.qo 1 a]) 0,[],[]))(k:Wp (f x3 x4 x5 x6 x7 x8 a) P):Wp (dD wk yt o f) P:=by
 subst h;exact k
def zFe(c:Nat):Prop:=c<256
instance:DecidablePred zFe:=λc=>by unfold zFe;infer_instance
abbrev okS(s:List Nat):Prop:=∀c∈s,zFe c
theorem zF2{k:Nat}(h:k<10):(UInt8.ofNat (48+k)).toNat=48+k:=by
 rw[UInt8.toNat_ofNat'];omega
theorem zTO{k:Nat}(h:k<10):zFe (48+k):=by unfold zFe;omega
theorem zOG(n:Nat):okS ((Lib.decDigits n).map UInt8.toNat):=by
 induction n using Nat.strongRecOn with
 |ind n b=>
  rw[Lib.decDigits];by_cases h:n<10
  .rw[dif_pos h];intro c hc;simp only[Qa,List.map_nil,zF2 h,QY]at hc;subst hc;exact zTO h
  .rw[dif_neg h,Qy];intro c hc;rcases QH.1 hc with hc|hc
   .exact b (n / 10) (by omega) c hc
   .have a:=Nat.mod_lt n (by decide:0<10)
    simp only[Qa,List.map_nil,zF2 a,QY]at hc;subst hc;exact zTO a
theorem zP4(s:List Nat)(h:s.length<=1000):∃n v,zBG s (ofNat 10) (ofNat 64)=some (.qg [.int .i64 n,v])/\-9223372036854775808<=n/\n<=9223372036854775807:=by
 have hs:∀l,-9223372036854775808<=Lib.intSat 64 l/\Lib.intSat 64 l<=9223372036854775807:=λl=>by unfold Lib.intSat;split<;>decide
 have e:Nat.ble s.length 281474976710656=true:=by rw[Qo];omega
 have b:(Nat.ble s.length 281474976710656&&(ofNat 10==10&&ofNat 64==64))=true:=by rw[e];rfl
 unfold zBG zB4 zNN;simp only[b];cases hp:Lib.parseIntB 64 (s.map UInt8.ofNat)with
 |ok v=>
  have a:=Lib.parseIntB_bounds hp;exact⟨_,_,rfl,a.1,Int.le_of_lt_add_one a.2⟩
 |range=>exact⟨_,_,rfl,hs _⟩
 |_=>exact⟨_,_,rfl,by decide,by decide⟩
def okA(a b c d:Int):Prop:=(0<=a/\a<=1099511627776)/\(0<=b/\b<=1099511627776)/\(0<=c/\c<=1099511627776)/\(0<=d/\d<=1099511627776)
instance(a b c d:Int):Decidable (okA a b c d):=by unfold okA;infer_instance
theorem Wf{β:Type}{P:β->Prop}{b:Bool}{x y:Option β}(h:b=false)(k:Wp y P):Wp (br b x y) P:=by subst h;exact k
theorem Wt{β:Type}{P:β->Prop}{b:Bool}{x y:Option β}(h:b=true)(k:Wp x P):Wp (br b x y) P:=by subst h;exact k
theorem zj{β:Type}{o:Option β}{x:β}(h:Wp o λv=>v=x):o=some x:=let ⟨_,e,h⟩:=h;h▸e
def zWq(a b c d e j g h:Int):Prop:=a<=e/\b<=j/\c<=g/\d<=h
instance(a b c d a' b' c' d':Int):Decidable (zWq a b c d a' b' c' d'):=by unfold zWq;infer_instance
abbrev bytes(s:List Nat):List AV:=s.map λb=>AV.int .u8 (.ofNat b)
theorem zFA(c:Int):zAL c=some (.bool (decide (48<=c/\c<=57))):=by
 rw[zM5];refine zj (Wc (λh=>Wb ?_) λh=>Wb ?_)
 .congr 1;exact decide_eq_decide.2 (by omega)
 .congr 1;exact(Qr (by omega)).symm
theorem zR9:∀(l:List Nat)(x:Nat),x<=l.foldl (λx c=>10*x+(c-48)) x
 |[],x=>QA _
 |c::r,x=>by
  have:=zR9 r (10*x+(c-48));show x<=r.foldl _ (10*x+(c-48))
  omega
def zGk(m:Nat)(a:List Nat):Bool:=decide (a.length<=m)&&(isAt zAP a 0&&a.all namB)
section
variable{s:List Nat}{l:List AV}
theorem zIf(l:List AV)(k:Int)(a b:List Nat)(n:Int):l.length+(RT.leaf k a b n).size-1=l.length:=by
 show l.length+1-1=_
 omega
variable(hs:s.length<=65536)
include hs
end
theorem zTP(l:List AV)(k:Int)(t u:RT):(l++t.fl l.length)++u.fl (l++t.fl l.length).length++[nd6 k [] [] (ofNat 0) (ofNat (l.length+t.size-1)) (ofNat ((l++t.fl l.length).length+u.size-1))]=l++(RT.two k t u).fl l.length:=by
 rw[QJ,RT.fl_length,RT.fl];simp only[Ql]
theorem zP5(n:Int)(a:-9223372036854775808<=n)(h1:n<=9223372036854775807):(decI n).length<=21:=by
 unfold decI;rw[QP];exact Lib.itoa_length_le n a h1
theorem zVf(n:Int)(a:-9223372036854775808<=n)(h1:n<=9223372036854775807):zD3 n (ofNat 10)=some (.str (decI n)):=by
 show(match((ofNat 10==10)&&decide (-9223372036854775808<=n/\n<=9223372036854775807))with|true=>some (AV.str ((Lib.itoa n).map UInt8.toNat))|false=>none)=_
 rw[Qq (⟨a,h1⟩:-9223372036854775808<=n/\n<=9223372036854775807)];rfl
def RT.bd(M:Nat):RT->Prop
 |.leaf k a b n=>a.length+b.length<=M/\-9223372036854775808<=n/\n<=9223372036854775807
 |.not t=>t.bd M
 |.two k t u=>t.bd M/\u.bd M
def RT.pos:RT->Prop
 |.leaf k a b n=>0<=n
 |.not t=>t.pos
 |.two k t u=>t.pos/\u.pos
theorem RT.wf.bd{t:RT}(h:t.wf):t.bd 56/\t.pos:=by
 induction t with
 |leaf k a b n=>
  rcases h with⟨_,rfl,rfl,rfl⟩|⟨h1,_,⟨_,g,rfl⟩|⟨_,rfl,g,p⟩|⟨_,rfl,rfl⟩⟩
  .exact⟨⟨by decide,by omega,by omega⟩,Int.le_refl _⟩
  .exact⟨⟨by have:=h1.1;have:=g.2.1;omega,by omega,by omega⟩,Int.le_refl _⟩
  .exact⟨⟨by have:=h1.1;simp;omega,by omega,by omega⟩,g⟩
  .exact⟨⟨by have:=h1.1;simp;omega,by omega,by omega⟩,Int.le_refl _⟩
 |not t j=>exact j h
 |two k t u d e=>exact⟨⟨(d h.2.1).1,(e h.2.2).1⟩,(d h.2.1).2,(e h.2.2).2⟩
theorem zCY(g m:Int)(s:List Nat):(parT g m s).length<=s.length+2:=by
 unfold parT;split
 .simp only[QJ,QZ,Qj];omega
 .omega
theorem zTQ{k:Int}{a b:List Nat}{n:Int}{M:Nat}(h:a.length+b.length<=M)(d:-9223372036854775808<=n)(h1:n<=9223372036854775807):(zC5 k a b n).length<=M+24:=by
 have:=zP5 n d h1;unfold zC5
 repeat' split
 all_goals try simp only[QJ,QZ,Qj]
 all_goals omega
theorem zF3{M:Nat}:∀{t:RT},t.bd M->t.told.length<=t.size*(M+40)
 |.leaf k a b n,h=>by
  have:=zTQ (k:=k) h.1 h.2.1 h.2.2;show(zC5 k a b n).length<=1*(M+40)
  omega
 |.not t,h=>by
  have:=zF3 (t:=t) h;have:=zCY t.tg 2 t.told;show([33]++parT t.tg 2 t.told).length<=(t.size+1)*(M+40)
  rw[Nat.add_mul];simp only[QJ,QZ,Qj];omega
 |.two k t u,h=>by
  have h1:=zF3 (t:=t) h.1;have p:=zF3 (t:=u) h.2;have e:(t.size+u.size+1)*(M+40)=t.size*(M+40)+u.size*(M+40)+(M+40):=by rw[Nat.add_mul,Nat.add_mul,Nat.one_mul]
  have g:=zCY t.tg 1 t.told;have q:=zCY u.tg 2 u.told;have d:=zCY t.tg 0 t.told;have j:=zCY u.tg 1 u.told;show(RT.two k t u).told.length<=(t.size+u.size+1)*(M+40)
  rw[e,RT.told];by_cases hk:k=8
  .rw[if_pos hk];simp only[QJ,QZ,Qj];omega
  .rw[if_neg hk];simp only[QJ,QZ,Qj];omega
def Seg(es:List AV)(t:RT)(o:Nat):Prop:=∀j,j<t.size->es[o+j]? = (t.fl o)[j]?
theorem Seg.whole(t:RT):Seg (t.fl 0) t 0:=λj _=>by rw[QS]
theorem Seg.leaf{es:List AV}{o:Nat}{k:Int}{a b:List Nat}{n:Int}(h:Seg es (.leaf k a b n) o):es[o]?=some (nd6 k a b n (Int.negSucc 0) (Int.negSucc 0)):=h 0 Nat.one_pos
theorem Seg.not{es:List AV}{o:Nat}{t:RT}(h:Seg es (.not t) o):Seg es t o/\es[o+t.size]?=some (nd6 7 [] [] (ofNat 0) (ofNat (o+t.size-1)) (Int.negSucc 0)):=by
 have a:(RT.not t).size=t.size+1:=rfl;refine⟨λj b=>?_,?_⟩
 .rw[h j (by omega),RT.fl,Qp (by rw[RT.fl_length];omega)]
 .rw[h t.size (by omega),RT.fl,List.getElem?_append_right (by rw[RT.fl_length];omega),RT.fl_length,Nat.sub_self]
  rfl
theorem Seg.two{es:List AV}{o:Nat}{k:Int}{t u:RT}(h:Seg es (.two k t u) o):Seg es t o/\Seg es u (o+t.size)/\es[o+t.size+u.size]?=some (nd6 k [] [] (ofNat 0) (ofNat (o+t.size-1)) (ofNat (o+t.size+u.size-1))):=by
 have d:(RT.two k t u).size=t.size+u.size+1:=rfl;refine⟨λj b=>?_,λj b=>?_,?_⟩
 .rw[h j (by omega),RT.fl,Qp (by rw[QJ,RT.fl_length];omega),Qp (by rw[RT.fl_length];omega)]
 .rw[show o+t.size+j=o+(t.size+j) by omega,h (t.size+j) (by omega),RT.fl,Qp (by rw[QJ,RT.fl_length,RT.fl_length];omega),List.getElem?_append_right (by rw[RT.fl_length];omega),RT.fl_length]
  congr 1;omega
 .have a:=h (t.size+u.size) (by omega)
  rw[←Nat.add_assoc]at a;rw[a,RT.fl,List.getElem?_append_right (by rw[QJ,RT.fl_length,RT.fl_length];omega),QJ,RT.fl_length,RT.fl_length,Nat.sub_self]
  rfl
def RT.kd:RT->Prop
 |.leaf k a b n=>1<=k/\k<=6
 |.not t=>t.kd
 |.two k t u=>(k=8\/k=9)/\t.kd/\u.kd
theorem RT.wf.kd{t:RT}(h:t.wf):t.kd:=by
 induction t with
 |leaf k a b n=>
  rcases h with⟨rfl,_⟩|⟨_,_,⟨rfl|rfl,_⟩|⟨rfl|rfl,_⟩|⟨rfl,_⟩⟩<;>exact⟨by decide,by decide⟩
 |not t g=>exact g h
 |two k t u d e=>exact⟨h.1,d h.2.1,e h.2.2⟩
theorem zB5{es:List AV}{j:Nat}{k n l r:Int}{a b:List Nat}(h:es[j]?=some (nd6 k a b n l r)){β:Type}{P:β->Prop}{wk:Bool}{f:Int->List Nat->List Nat->Int->Int->Int->Option β}(p:Wp (f k a b n l r) P):Wp (dK wk yk (ixN es (ofNat j)) f) P:=zEV (zX0.trans h) p
noncomputable def zV6(r:RE RT):AV:=match r with
 |.ok t=>.qg [.agg [.qo 6 (t.fl 0)],.agg [.int .i64 (ofNat 0),.int .i64 (ofNat 0)]]
 |.error (e,f)=>.qg [.agg [.qa],.agg [.int .i64 e,.int .i64 f]]
structure FA where
 e:Int
 f:Int
def FA.ok(x:FA):Bool:=x.e==0&&x.f==0
def FA.fail(x:FA)(e f:Int):FA:=if x.ok=true then⟨e,f⟩else x
theorem FA.wC{x:FA}(h:x.ok=false)(e f:Int):x.fail e f=x:=if_neg (by rw[h];decide)
theorem FA.qF{x:FA}(h:x.ok=true)(e f:Int):x.fail e f=⟨e,f⟩:=if_pos h
theorem FA.zero{x:FA}(h:x.ok=true):x=⟨0,0⟩:=by
 obtain⟨e,f⟩:=x;unfold FA.ok at h;simp at h;rw[h.1,h.2]
theorem fa5(f:Int):(FA.mk 5 f).ok=false:=rfl
theorem fa3(f:Int):(FA.mk 3 f).ok=false:=rfl
abbrev zAm(v:AV)(s:List Nat)(i dp n:Int)(x:FA)(l:List AV):AV×Heap×Vecs:=(v,[(0,HO.cells false [.str s,.int .i64 i,.int .i64 dp,.int .i64 n,AV.sym 0,.int .i64 x.e,.int .i64 x.f])],[(0,VI.vec 6 l)])
section
variable{β:Type}{wk:Bool}{P:β->Prop}{o:Option (AV×Heap×Vecs)}{s:List Nat}{i dp:Int}{x:FA}{n:Int}{l:List AV}
theorem adU{f:List Nat->Int->Int->Int->Int->Int->List AV->Option β}(h:o=some (zAm (.qg []) s i dp n x l))(k:Wp (f s i dp n x.e x.f l) P):Wp (dD wk [.v (.qg 0),.hc 0 false 7,.v .s,.v (.i .i64),.v (.i .i64),.v (.i .i64),.v (.c (AV.sym 0)),.v (.i .i64),.v (.i .i64),.vec 0 6] o f) P:=by
 subst h;exact k
theorem adB{y:Bool}{f:Bool->List Nat->Int->Int->Int->Int->Int->List AV->Option β}(h:o=some (zAm (.bool y) s i dp n x l))(k:Wp (f y s i dp n x.e x.f l) P):Wp (dD wk [.v .b,.hc 0 false 7,.v .s,.v (.i .i64),.v (.i .i64),.v (.i .i64),.v (.c (AV.sym 0)),.v (.i .i64),.v (.i .i64),.vec 0 6] o f) P:=by
 subst h;exact k
theorem adI{y:Int}{f:Int->List Nat->Int->Int->Int->Int->Int->List AV->Option β}(h:o=some (zAm (.int .i64 y) s i dp n x l))(k:Wp (f y s i dp n x.e x.f l) P):Wp (dD wk [.v (.i .i64),.hc 0 false 7,.v .s,.v (.i .i64),.v (.i .i64),.v (.i .i64),.v (.c (AV.sym 0)),.v (.i .i64),.v (.i .i64),.vec 0 6] o f) P:=by
 subst h;exact k
theorem adS{y:List Nat}{f:List Nat->List Nat->Int->Int->Int->Int->Int->List AV->Option β}(h:o=some (zAm (.str y) s i dp n x l))(k:Wp (f y s i dp n x.e x.f l) P):Wp (dD wk [.v .s,.hc 0 false 7,.v .s,.v (.i .i64),.v (.i .i64),.v (.i .i64),.v (.c (AV.sym 0)),.v (.i .i64),.v (.i .i64),.vec 0 6] o f) P:=by
 subst h;exact k
end
def zZh(c:Nat):Bool:=decide (97<=c/\c<=122\/65<=c/\c<=90)
theorem zZE:∀c,c<256->(decide (IntKind.wrap IntKind.u8 ↑(BitVec.toNat (BitVec.ofInt (IntKind.bits IntKind.u8) (ofNat c) ||| BitVec.ofInt (IntKind.bits IntKind.u8) 32))>=97)&&decide (IntKind.wrap IntKind.u8 ↑(BitVec.toNat (BitVec.ofInt (IntKind.bits IntKind.u8) (ofNat c) ||| BitVec.ofInt (IntKind.bits IntKind.u8) 32))<=122))=zZh c:=by decide +kernel
theorem zaf:∀c,c<256->decide (0<=Lib.indexByte ([45,95,46].map UInt8.ofNat) (UInt8.ofNat c))=decide (c=45\/c=95\/c=46):=by decide +kernel
theorem zKq(c:Nat)(h8:c<256):zBY (ofNat c)=some (.bool (wrdB c)):=by
 have b:zGP (ofNat c)=some (.bool (zZh c)):=by
  rw[←zZE c h8];refine zj ?_
  rw[zMj];refine Wc (λh=>Wb ?_) λh=>Wb ?_
  .rw[Qq h];rfl
  .rw[Qr h];rfl
 refine zj ?_
 rw[zMk];refine qk_b b (Wa (λh=>Wb ?_) λh=>qk_b (zFA _) (Wa (λa=>Wb ?_) λa=>?_))
 .have h:=Qc h;refine congrArg AV.bool ?_
  unfold wrdB;exact(Qq (by omega)).symm
 .have a:=Qc a;rw[QB]at a;refine congrArg AV.bool ?_
  unfold wrdB;exact(Qq (by omega)).symm
 .have h:=Qz h;have a:=Qz a;rw[QB]at a;refine zCA (show zFX [45,95,46] (ofNat c)=some (.int .i64 (Lib.indexByte ([45,95,46].map UInt8.ofNat) (UInt8.ofNat c)))from rfl) (Wb ?_)
  refine congrArg AV.bool ?_
  rw[show(decide (Lib.indexByte ([45,95,46].map UInt8.ofNat) (UInt8.ofNat c)>=0))=decide (0<=Lib.indexByte ([45,95,46].map UInt8.ofNat) (UInt8.ofNat c))from rfl,zaf c h8]
  unfold wrdB;exact decide_eq_decide.2 (by omega)
theorem zVg(c:Nat):zDA (ofNat c)=some (.bool (namB c)):=by
 refine zj ?_
 rw[zH9]
 repeat' first|refine Wc (λ_=>?_) (λ_=>?_)|refine Wa (λ_=>?_) (λ_=>?_)|refine qk_b (zFA _) ?_|refine Wb ?_
 all_goals simp only[QB,decide_eq_true_eq,decide_eq_false_iff_not]at *
 all_goals refine congrArg AV.bool ?_
 all_goals unfold namB zAP zE
 all_goals rw[Bool.eq_iff_iff]
 all_goals simp
 all_goals omega
theorem zWM(c:Nat):zAL (ofNat c)=some (.bool (zE c)):=by
 rw[zFA];unfold zE;congr 2;exact decide_eq_decide.2 (by rw[QB];omega)
def pfx(s:List Nat)(j:Nat)(t:List Nat):Bool:=decide (List.take t.length (List.drop j s)=t)
theorem pfx1{s:List Nat}{j c:Nat}:pfx s j [c]=true↔s[j]?=some c:=by
 unfold pfx;rw[decide_eq_true_iff]
 constructor
 .intro h;have:(List.take 1 (List.drop j s))[0]? = s[j]?:=by rw[List.getElem?_take_of_lt (by omega),List.getElem?_drop];rfl
  rw[←this];have h:List.take 1 (List.drop j s)=[c]:=h;rw[h];rfl
 .intro h;obtain⟨b,a⟩:=QC.1 h;rw[Qd b,a];rfl
theorem pfx2{s:List Nat}{j c d:Nat}:pfx s j [c,d]=true↔s[j]?=some c/\s[j+1]?=some d:=by
 unfold pfx;rw[decide_eq_true_iff]
 constructor
 .intro h;have a:(List.take 2 (List.drop j s))[0]? = s[j]?:=by rw[List.getElem?_take_of_lt (by omega),List.getElem?_drop];rfl
  have h1:(List.take 2 (List.drop j s))[1]? = s[j+1]?:=by rw[List.getElem?_take_of_lt (by omega),List.getElem?_drop]
  rw[←a,←h1];have h:List.take 2 (List.drop j s)=[c,d]:=h;rw[h];exact⟨rfl,rfl⟩
 .intro h;obtain⟨a,b⟩:=QC.1 h.1;obtain⟨h1,e⟩:=QC.1 h.2;rw[Qd a,Qd h1,b,e];rfl
theorem zP6(t u:List Nat):zD4 t u=some (.bool (decide (List.take u.length t=u))):=by
 refine zj ?_
 rw[zIH];have h:zAS t u=some (.bool (decide (List.take u.length t=u))):=by
  refine zj ?_
  rw[zEy];refine Wc (λh=>We ⟨Qf _,h⟩ (Wb ?_)) λh=>Wb ?_
  .rw[zAG];rfl
  .have h:¬u.length<=t.length:=λa=>h (Int.ofNat_le.2 a)
   rw[Qr];intro e;have:=congrArg List.length e;rw[Qm]at this;omega
 exact qk_b h (Wb rfl)
section
variable{s:List Nat}(hs:s.length<=65536)(x:FA)(dp n:Int)(l:List AV)
include hs
theorem zBq(i:Nat)(g:i<=s.length):zR s (ofNat i) dp n x.e x.f l=some (zAm (.qg []) s (ofNat (sk s i)) dp n x l):=by
 have loop:∀(m i:Nat),i<=s.length->s.length-i<m->zBl m s (ofNat i) dp n x.e x.f l=some (zAm (.qg []) s (ofNat (sk s i)) dp n x l):=by
  intro m
  induction m with
  |zero=>intro i _ h;omega
  |succ m j=>
   intro i g k;refine zj ?_
   rw[zGU];refine Wd (λa=>Wp.bd (R:=λc=>c=s[i]) ⟨_,zDW a,rfl⟩ λc hc=>Wa (λh=>?_) λh=>?_) λd=>Wb ?_
   .subst hc;have b:isAt (·==32) s i=true:=by rw[zCF a];exact beq_iff_eq.2 ((zV4 (y:=32)).1 h)
    rw[zGT,zq (by omega),j (i+1) a (by omega)]
    refine Wb ?_
    unfold sk;rw[zLm b,show i+1+rn (·==32) s (i+1)=i+(rn (·==32) s (i+1)+1) by omega]
   .subst hc;have b:isAt (·==32) s i=false:=by rw[zCF a];exact beq_eq_false_iff_ne.2 ((zWp (y:=32)).1 h)
    refine Wb ?_
    rw[zGj b]
   .rw[zGj (zCX d)]
 rw[zH8];exact loop zg i g (by have:=zT (n:=65537) (by omega);omega)
theorem zag(t:List Nat)(i:Nat)(a:i<=s.length):zh t s (ofNat i) dp n x.e x.f l=some (zAm (.bool (pfx s (sk s i) t)) s (if pfx s (sk s i) t=true then ofNat (sk s i+t.length)else ofNat (sk s i)) dp n x l):=by
 refine zj ?_
 have hk:=zBw a;rw[zKe];refine adU (zBq hs x dp n l i a) (We ⟨Qf _,Int.ofNat_le.2 hk⟩ ?_)
 have e:List.drop (Int.toNat (ofNat (sk s i))) (List.take (Int.toNat (ofNat s.length)) s)=List.drop (sk s i) s:=by
  show List.drop (sk s i) (List.take s.length s)=_
  rw[List.take_length]
 rw[e];refine qk_b (zP6 _ t) (Wa (λh=>Wb ?_) λh=>?_)
 .have h:pfx s (sk s i) t=false:=by
   have h:(!(pfx s (sk s i) t))=true:=h
   simpa using h
  rw[h];rfl
 .have h:pfx s (sk s i) t=true:=by
   have h:(!(pfx s (sk s i) t))=false:=h
   simpa using h
  rw[h,if_pos rfl];have b:sk s i+t.length<=s.length:=by
   have:=congrArg List.length (Qc h);rw[Qm,Qv]at this;omega
  rw[zCw (by rw[QB,QB];omega) (by rw[QB,QB];omega)]
  exact Wb rfl
omit hs in
theorem zDb(e f i:Int):zx e f s i dp n x.e x.f l=some (zAm (.qg []) s i dp n (x.fail e f) l):=by
 refine zj ?_
 rw[zII];refine Wa (λh=>Wb ?_) λh=>Wb ?_
 .have h:x.ok=true:=h;rw[FA.qF h]
 .have h:x.ok=false:=h;rw[FA.wC h]
omit hs in
theorem zIX(f i:Int):zAj f s i dp n x.e x.f l=some (zAm (.qg []) s i dp (wrapx .i64 (n+1)) (if 64<wrapx .i64 (n+1)then x.fail 3 f else x) l):=by
 refine zj ?_
 rw[zIJ];refine Wc (λh=>adU (zDb x dp (wrapx .i64 (n+1)) l _ f i) (Wb ?_)) λh=>Wb ?_
 .rw[if_pos h];rfl
 .rw[if_neg h]
omit hs in
theorem zSa(f i:Int)(h:dp+1<=32)(b:0<=dp):zCj f s i dp n x.e x.f l=some (zAm (.bool true) s i (dp+1) n x l):=by
 refine zj ?_
 rw[zFZ,zCw (by omega) (by omega)]
 exact Wc (λa=>absurd a (by omega)) λ_=>Wb rfl
omit hs in
theorem zOH(f i:Int)(h:dp=32):zCj f s i dp n x.e x.f l=some (zAm (.bool false) s i 33 n (x.fail 3 f) l):=by
 subst h;refine zj ?_
 rw[zFZ,show wrapx .i64 ((32:Int)+1)=33 from rfl]
 exact Wc (λ_=>adU (zDb x 33 n l 3 f i) (Wb rfl)) λh=>absurd (by decide) h
omit hs in
theorem zCJ(k:Int)(a b:List Nat)(m p q i:Int)(h:x.ok=false):zAd k a b m p q s i dp n x.e x.f l=some (zAm (.int .i64 (Int.negSucc 0)) s i dp n x l):=by
 refine zj ?_
 rw[zFk];refine Wa (λ_=>Wb rfl) λd=>?_
 have d:(!x.ok)=false:=by
  have g:(match x.ok with|true=>false|false=>true)=false:=by
   revert d
   unfold FA.ok;cases (x.e==0&&x.f==0)<;>intro d<;>first|rfl|exact d
  cases hx:x.ok with
  |true=>rfl
  |false=>rw[hx]at g;cases g
 rw[h]at d;cases d
omit hs in
theorem zDr(k:Int)(a b:List Nat)(m p q i:Int)(h:x.ok=true)(d:l.length<=64):zAd k a b m p q s i dp n x.e x.f l=some (zAm (.int .i64 (ofNat l.length)) s i dp n x (l++[nd6 k a b m p q])):=by
 have:=FA.zero h;subst this;refine zj ?_
 rw[zFk];refine Wf rfl<|We ?_ (Wb ?_)
 .show(l.length+1)*64<=zc/\l.length+1<=zc
  unfold zc;omega
 .show zAm (.int .i64 (wrapx .i64 (ofNat (l++[nd6 k a b m p q]).length-1))) s i dp n ⟨0,0⟩ (l++[nd6 k a b m p q])=_
  rw[QJ];have e:wrapx .i64 (ofNat (l.length+[nd6 k a b m p q].length)-1)=ofNat l.length:=zCU (i:=l.length+1) (by omega) (by omega)
  rw[e]
theorem zST(m:Nat)(hm:m<=1000)(i:Nat)(p:i<=s.length):zAv (ofNat m) s (ofNat i) dp n x.e x.f l=some (zAm (.str (cutS s i (i+min m (rn namB s i)))) s (ofNat (i+min m (rn namB s i))) dp n x l):=by
 have y:=zE0 namB s i p;have loop:∀(w t:Nat),t<=min m (rn namB s i)->s.length-(i+t)<w->zU w (ofNat m) (ofNat i) s (ofNat (i+t)) dp n x.e x.f l=some (zAm (.str (cutS s i (i+min m (rn namB s i)))) s (ofNat (i+min m (rn namB s i))) dp n x l):=by
  intro w
  induction w with
  |zero=>intro t _ h;omega
  |succ w q=>
   intro t r u;refine zj ?_
   have g:t=min m (rn namB s i)->Wp (gd (decide (0<=ofNat i/\ofNat i<=ofNat (i+t)/\ofNat (i+t)<=ofNat s.length)) (some (AV.str (List.drop (Int.toNat (ofNat i)) (List.take (Int.toNat (ofNat (i+t))) s)),[(0,HO.cells false [.str s,.int .i64 (ofNat (i+t)),.int .i64 dp,.int .i64 n,AV.sym 0,.int .i64 x.e,.int .i64 x.f])],[(0,VI.vec 6 l)]))) λv=>v=zAm (.str (cutS s i (i+min m (rn namB s i)))) s (ofNat (i+min m (rn namB s i))) dp n x l:=λh=>by
    refine We ⟨Qf _,Int.ofNat_le.2 (by omega),Int.ofNat_le.2 (by omega)⟩ (Wb ?_)
    rw[←h];rfl
   have a:isAt namB s (i+t)=false->t=min m (rn namB s i):=λh=>by
    by_cases k:t<rn namB s i
    .rw[zKn t i k]at h;cases h
    .omega
   rw[zDl];refine Wd (λb=>Wc (λd=>Wp.bd (R:=λc=>c=s[i+t]) ⟨_,zDW b,rfl⟩ λc hc=>qk_b (zVg c) (Wa (λh=>?_) λh=>?_)) λd=>g ?_) λj=>g (a (zCX j))
   .subst hc;rw[zCw (by rw[QB,QB];omega) (by rw[QB,QB];omega),QB,QB,QB]at d
    rw[zDk,zq (by omega),show i+t+1=i+(t+1) by omega,q (t+1) ?_ (by omega)]
    .exact Wb rfl
    .have:t≠rn namB s i:=λe=>by
      have:=zMO namB s _ i (QA _);rw[←e,zCF b,h]at this;cases this
     omega
   .subst hc;exact g (a (by rw[zCF b];exact h))
   .rw[zCw (by rw[QB,QB];omega) (by rw[QB,QB];omega),QB,QB,QB]at d
    omega
 rw[zDO];exact loop zg 0 (QV _) (by have:=zT (n:=65537) (by omega);omega)
theorem zSU(m:Nat)(hm:m<=1000)(h8:∀c∈s,c<256)(i:Nat)(p:i<=s.length):zBi (ofNat m) s (ofNat i) dp n x.e x.f l=some (zAm (.str (cutS s i (i+min m (rn wrdB s i)))) s (ofNat (i+min m (rn wrdB s i))) dp n x l):=by
 have y:=zE0 wrdB s i p;have loop:∀(w t:Nat),t<=min m (rn wrdB s i)->s.length-(i+t)<w->zAf w (ofNat m) (ofNat i) s (ofNat (i+t)) dp n x.e x.f l=some (zAm (.str (cutS s i (i+min m (rn wrdB s i)))) s (ofNat (i+min m (rn wrdB s i))) dp n x l):=by
  intro w
  induction w with
  |zero=>intro t _ h;omega
  |succ w q=>
   intro t r u;refine zj ?_
   have g:t=min m (rn wrdB s i)->Wp (gd (decide (0<=ofNat i/\ofNat i<=ofNat (i+t)/\ofNat (i+t)<=ofNat s.length)) (some (AV.str (List.drop (Int.toNat (ofNat i)) (List.take (Int.toNat (ofNat (i+t))) s)),[(0,HO.cells false [.str s,.int .i64 (ofNat (i+t)),.int .i64 dp,.int .i64 n,AV.sym 0,.int .i64 x.e,.int .i64 x.f])],[(0,VI.vec 6 l)]))) λv=>v=zAm (.str (cutS s i (i+min m (rn wrdB s i)))) s (ofNat (i+min m (rn wrdB s i))) dp n x l:=λh=>by
    refine We ⟨Qf _,Int.ofNat_le.2 (by omega),Int.ofNat_le.2 (by omega)⟩ (Wb ?_)
    rw[←h];rfl
   have b:isAt wrdB s (i+t)=false->t=min m (rn wrdB s i):=λh=>by
    by_cases k:t<rn wrdB s i
    .rw[zKn t i k]at h;cases h
    .omega
   rw[zEA];refine Wd (λa=>Wc (λd=>Wp.bd (R:=λc=>c=s[i+t]) ⟨_,zDW a,rfl⟩ λc hc=>qk_b (zKq c (by subst hc;exact h8 _ (Qi a))) (Wa (λh=>?_) λh=>?_)) λd=>g ?_) λj=>g (b (zCX j))
   .subst hc;rw[zCw (by rw[QB,QB];omega) (by rw[QB,QB];omega),QB,QB,QB]at d
    rw[zEz,zq (by omega),show i+t+1=i+(t+1) by omega,q (t+1) ?_ (by omega)]
    .exact Wb rfl
    .have:t≠rn wrdB s i:=λe=>by
      have:=zMO wrdB s _ i (QA _);rw[←e,zCF a,h]at this;cases this
     omega
   .subst hc;exact g (b (by rw[zCF a];exact h))
   .rw[zCw (by rw[QB,QB];omega) (by rw[QB,QB];omega),QB,QB,QB]at d
    omega
 rw[zE9];exact loop zg 0 (QV _) (by have:=zT (n:=65537) (by omega);omega)
theorem zRA(m:Nat)(hm:m<=1000)(i:Nat)(p:i<=s.length):zBr (ofNat m) s (ofNat i) dp n x.e x.f l=some (zAm (.str (cutS s i (i+min m (rn zE s i)))) s (ofNat (i+min m (rn zE s i))) dp n x l):=by
 have y:=zE0 zE s i p;have loop:∀(w t:Nat),t<=min m (rn zE s i)->s.length-(i+t)<w->zAh w (ofNat m) (ofNat i) s (ofNat (i+t)) dp n x.e x.f l=some (zAm (.str (cutS s i (i+min m (rn zE s i)))) s (ofNat (i+min m (rn zE s i))) dp n x l):=by
  intro w
  induction w with
  |zero=>intro t _ h;omega
  |succ w q=>
   intro t r u;refine zj ?_
   have g:t=min m (rn zE s i)->Wp (gd (decide (0<=ofNat i/\ofNat i<=ofNat (i+t)/\ofNat (i+t)<=ofNat s.length)) (some (AV.str (List.drop (Int.toNat (ofNat i)) (List.take (Int.toNat (ofNat (i+t))) s)),[(0,HO.cells false [.str s,.int .i64 (ofNat (i+t)),.int .i64 dp,.int .i64 n,AV.sym 0,.int .i64 x.e,.int .i64 x.f])],[(0,VI.vec 6 l)]))) λv=>v=zAm (.str (cutS s i (i+min m (rn zE s i)))) s (ofNat (i+min m (rn zE s i))) dp n x l:=λh=>by
    refine We ⟨Qf _,Int.ofNat_le.2 (by omega),Int.ofNat_le.2 (by omega)⟩ (Wb ?_)
    rw[←h];rfl
   have a:isAt zE s (i+t)=false->t=min m (rn zE s i):=λh=>by
    by_cases k:t<rn zE s i
    .rw[zKn t i k]at h;cases h
    .omega
   rw[zEQ];refine Wd (λb=>Wc (λd=>Wp.bd (R:=λc=>c=s[i+t]) ⟨_,zDW b,rfl⟩ λc hc=>qk_b (zWM c) (Wa (λh=>?_) λh=>?_)) λd=>g ?_) λj=>g (a (zCX j))
   .subst hc;rw[zCw (by rw[QB,QB];omega) (by rw[QB,QB];omega),QB,QB,QB]at d
    rw[zEP,zq (by omega),show i+t+1=i+(t+1) by omega,q (t+1) ?_ (by omega)]
    .exact Wb rfl
    .have:t≠rn zE s i:=λe=>by
      have:=zMO zE s _ i (QA _);rw[←e,zCF b,h]at this;cases this
     omega
   .subst hc;exact g (a (by rw[zCF b];exact h))
   .rw[zCw (by rw[QB,QB];omega) (by rw[QB,QB];omega),QB,QB,QB]at d
    omega
 rw[zFv];exact loop zg 0 (QV _) (by have:=zT (n:=65537) (by omega);omega)
theorem zYc(h8:∀c∈s,c<256)(i:Nat)(a:i<=s.length):zAw s (ofNat i) dp n x.e x.f l=some (zAm (.str (cutS s (sk s i) (sk s i+min 32 (rn wrdB s (sk s i))))) s (ofNat (sk s i+min 32 (rn wrdB s (sk s i)))) dp n (if rn wrdB s (sk s i)=0 then x.fail 5 (ofNat (sk s i))else x) l):=by
 refine zj ?_
 have hk:=zBw a;have d:=zE0 wrdB s (sk s i) hk;rw[zI2];refine adU (zBq hs x dp n l i a) (adS (zSU hs x dp n l 32 (by decide) h8 (sk s i) hk) ?_)
 have b:seqb (cutS s (sk s i) (sk s i+min 32 (rn wrdB s (sk s i)))) []=decide (rn wrdB s (sk s i)=0):=by
  rw[zAG];refine decide_eq_decide.2 ⟨λh=>?_,λh=>?_⟩
  .have:=zEj (s:=s) (i:=sk s i) (k:=min 32 (rn wrdB s (sk s i))) (by omega)
   rw[h]at this;have:0=min 32 (rn wrdB s (sk s i)):=this;omega
  .exact List.eq_nil_of_length_eq_zero (by rw[zEj (by omega)];omega)
 rw[b];refine Wc (λh=>adU (zDb x dp n l 5 _ _) (Wb ?_)) λh=>Wb ?_
 .rw[if_pos h,h];rfl
 .rw[if_neg h]
omit hs in
theorem pum(M:Nat)(d:999999999999<=M):∀(w:List Nat)(a:Nat),(∀c∈w,zE c=true)->w.foldl (λx c=>10*x+(c-48)) a<=999999999999->Lib.parseUintM M a (w.map UInt8.ofNat)=.ok (w.foldl (λx c=>10*x+(c-48)) a)
 |[],a,_,_=>rfl
 |c::r,a,h,b=>by
  have hc:=Qc (h c (.head _));have b:r.foldl (λx c=>10*x+(c-48)) (10*a+(c-48))<=999999999999:=b
  have j:=zR9 r (10*a+(c-48));have e:(UInt8.ofNat c).toNat=c:=by rw[UInt8.toNat_ofNat'];omega
  have g:a*10+(c-48)=10*a+(c-48):=by omega
  rw[Qa,Lib.parseUintM,e,if_pos hc,if_neg (by omega),g,if_neg (by omega)]
  exact pum M d r _ (λc hc=>h c (.tail _ hc)) b
omit hs in
theorem zVh(w:List Nat)(k:0<w.length)(j:w.length<=12)(a:∀c∈w,zE c=true):∃v,zBG w (ofNat 10) (ofNat 64)=some (.qg [.int .i64 (ofNat (zER w)),v]):=by
 have e:Nat.ble w.length 281474976710656=true:=by rw[Qo];omega
 have p:(Nat.ble w.length 281474976710656&&(ofNat 10==10&&ofNat 64==64))=true:=by rw[e];rfl
 have h:=zR6 a j;have g:Lib.parseIntB 64 (w.map UInt8.ofNat)=.ok (ofNat (zER w)):=by
  cases w with
  |nil=>cases k
  |cons c r=>
   have hc:=Qc (a c (.head _));have b:(UInt8.ofNat c).toNat=c:=by rw[UInt8.toNat_ofNat'];omega
   have d:Lib.parseUintB 64 ((c::r).map UInt8.ofNat)=.ok (zER (c::r)):=by
    unfold Lib.parseUintB;rw[if_neg (by simp)]
    exact pum _ (by decide) (c::r) 0 a h
   rw[Qa]at d⊢;rw[Lib.parseIntB_plain 64 _ _ (by rw[b];omega) (by rw[b];omega),d]
   show(if 2 ^ (64-1)<=zER (c::r)then Lib.NumEnd.range else Lib.NumEnd.ok ((zER (c::r):Nat):Int))=_
   rw[if_neg (by omega)]
   rfl
 unfold zBG zB4 zNN;simp only[p,g];exact⟨_,rfl⟩
omit hs in
theorem zP7(w:List Nat)(e:w.length<=12)(d:∀c∈w,zE c=true):∃y,zBZ w=some (.int .i64 y)/\(0<w.length->y=ofNat (zER w)):=by
 by_cases b:0<w.length
 .obtain⟨v,a⟩:=zVh w b e d;refine⟨_,zj ?_,λ_=>rfl⟩
  rw[zHB];exact zR7 a (Wb rfl)
 .obtain⟨y,v,a,_⟩:=zP4 w (by omega)
  refine⟨y,zj ?_,λh=>absurd h b⟩
  rw[zHB];exact zR7 a (Wb rfl)
theorem zVi(i:Nat)(g:i<=s.length):∃y,zAg s (ofNat i) dp n x.e x.f l=some (zAm (.int .i64 y) s (ofNat (sk s i+min 12 (rn zE s (sk s i)))) dp n (if rn zE s (sk s i)=0 then x.fail 5 (ofNat (sk s i))else x) l)/\(rn zE s (sk s i)≠0->y=ofNat (zER (cutS s (sk s i) (sk s i+min 12 (rn zE s (sk s i)))))):=by
 have hk:=zBw g;have p:=zE0 zE s (sk s i) hk;have a:=zEj (s:=s) (i:=sk s i) (k:=min 12 (rn zE s (sk s i))) (by omega)
 obtain⟨y,d,b⟩:=zP7 (cutS s (sk s i) (sk s i+min 12 (rn zE s (sk s i)))) (by rw[a];omega) (zJj (by omega) (Nat.min_le_right _ _))
 refine⟨y,zj ?_,λh=>b (by rw[a];omega)⟩
 rw[zIa];refine adU (zBq hs x dp n l i g) (adS (zRA hs x dp n l 12 (by decide) (sk s i) hk) ?_)
 have j:seqb (cutS s (sk s i) (sk s i+min 12 (rn zE s (sk s i)))) []=decide (rn zE s (sk s i)=0):=by
  rw[zAG];refine decide_eq_decide.2 ⟨λh=>?_,λh=>?_⟩
  .rw[h]at a;have:0=min 12 (rn zE s (sk s i)):=a;omega
  .exact List.eq_nil_of_length_eq_zero (by rw[a];omega)
 rw[j];refine Wc (λh=>adU (zDb x dp n l 5 _ _) (zCA d (Wb ?_))) λh=>zCA d (Wb ?_)
 .rw[if_pos h,h];rfl
 .rw[if_neg h]
end
def zB2(s:List Nat)(x:FA)(v:AV×Heap×Vecs):Prop:=∃(y:Int) (i:Nat) (dp n:Int) (l:List AV),i<=s.length/\v=zAm (.int .i64 y) s (ofNat i) dp n x l
def zZF(s:List Nat)(l:List AV)(dp:Int)(n0:Nat)(f:Int)(v:AV×Heap×Vecs):Prop:=∃(y:Int) (i a:Nat) (b:List AV),f=ofNat i/\isAt wrdB s i=true/\a<=64/\b.length+n0<=l.length+a/\v=zAm (.int .i64 y) s (ofNat i) dp (ofNat a) ⟨0,0⟩ b
def zBN(s:List Nat)(l:List AV)(dp:Int)(n0:Nat):RE (Nat×Nat×RT)->AV×Heap×Vecs->Prop
 |.ok (i,n,t),v=>v=zAm (.int .i64 (ofNat (l.length+t.size-1))) s (ofNat i) dp (ofNat n) ⟨0,0⟩ (l++t.fl l.length)
 |.error (e,f),v=>((FA.mk e f).ok=false/\zB2 s ⟨e,f⟩ v)\/(e=5/\zZF s l dp n0 f v)
section
variable{s:List Nat}{l:List AV}{dp:Int}
theorem zGY{i:Nat}(h:isAt wrdB s i=true):isAt (·==32) s i=false:=by
 unfold isAt at h⊢;split at h
 .rename_i c _;have:=Qc h;exact beq_eq_false_iff_ne.2 (by omega)
 .cases h
theorem zMg{i c:Nat}(h:isAt wrdB s i=true)(hc:wrdB c=false):pfx s i [c]=false:=by
 cases hp:pfx s i [c]with
 |false=>rfl
 |true=>
  have:=pfx1.1 hp;unfold isAt at h;rw[this]at h;have h:wrdB c=true:=h;rw[hc]at h;cases h
variable(hs:s.length<=65536)
include hs
def zOs(s:List Nat)(l:List AV)(dp:Int)(n:Nat)(x:FA)(r:RE (Nat×Nat×RT))(v:AV×Heap×Vecs):Prop:=(x.ok=false->zB2 s x v)/\(x.ok=true->zBN s l dp n r v)
theorem zBW{x:FA}(h:x.ok=false)(k:Int)(a b:List Nat)(m p q:Int)(i:Nat)(d:i<=s.length)(n:Int):Wp (zl s (ofNat i) dp n x.e x.f k a b m p q l) (zB2 s x):=by
 rw[zEm];exact adI (zCJ x dp n l k a b m p q _ h) (Wb ⟨_,_,_,_,_,d,rfl⟩)
theorem zHs(k:Int)(a b:List Nat)(m p q:Int)(i n:Int)(d:l.length<=64):Wp (zl s i dp n 0 0 k a b m p q l) λv=>v=zAm (.int .i64 (ofNat l.length)) s i dp n ⟨0,0⟩ (l++[nd6 k a b m p q]):=by
 rw[zEm];exact adI (zDr ⟨0,0⟩ dp n l k a b m p q i rfl d) (Wb rfl)
theorem zSb(h8:∀c∈s,c<256)(x:FA)(j n:Nat)(m:Int)(k:Int)(a:List Nat)(t:j<=s.length)(hm:x.ok=true->m=ofNat (n+1))(q:n+1<=64\/x.ok=false)(y:l.length<=n)(p:l.length<=64):
  Wp (dD true [.v .s,.hc 0 false 7,.v .s,.v (.i .i64),.v (.i .i64),.v (.i .i64),.v (.c (AV.sym 0)),.v (.i .i64),.v (.i .i64),.vec 0 6] (zAw s (ofNat j) dp m x.e x.f l) λu w n15 n16 n17 n18 n19 r=>zl w n15 n16 n17 n18 n19 k a u (ofNat 0) (Int.negSucc 0) (Int.negSucc 0) r) (zOs s l dp n x (zFx s j n k a)):=by
 have hk:=zBw t;have z:=zE0 wrdB s (sk s j) hk;refine adS (zYc hs x dp m l h8 j t) ?_
 cases hx:x.ok with
 |false=>
  rw[FA.wC hx,ite_self];exact(zBW hs hx k a _ _ _ _ _ (by omega) m).mono λv d=>⟨λ_=>d,λh=>by rw[hx]at h;cases h⟩
 |true=>
  have:=FA.zero hx;subst this;have hm:=hm hx;subst hm;have q:=q.resolve_right (by rw[hx];decide)
  unfold zFx zIW;by_cases g:rn wrdB s (sk s j)=0
  .rw[if_pos g,if_pos g,FA.qF hx];exact(zBW hs (fa5 _) k a _ _ _ _ _ (by omega) _).mono λv d=>⟨λh=>(by cases h),λ_=>.inl ⟨fa5 _,d⟩⟩
  .rw[if_neg g,if_neg g];refine(zHs hs k a _ _ _ _ _ _ p).mono λv d=>⟨λh=>(by cases h),λ_=>?_⟩
   by_cases b:32<rn wrdB s (sk s j)
   .rw[if_pos b];refine .inr ⟨rfl,_,sk s j+32,n+1,_,rfl,zKn 32 _ b,q,?_,d.trans (by rw[show min 32 (rn wrdB s (sk s j))=32 by omega])⟩
    rw[QJ];show l.length+1+n<=_
    omega
   .rw[if_neg b];show v=_
    rw[zIf,d,show min 32 (rn wrdB s (sk s j))=rn wrdB s (sk s j) by omega]
    rfl
theorem zSc(x:FA)(j n:Nat)(m:Int)(k:Int)(a:List Nat)(w:j<=s.length)(hm:x.ok=true->m=ofNat (n+1))(t:n+1<=64\/x.ok=false)(C:l.length<=n)(q:l.length<=64):
  Wp (dD true [.v (.i .i64),.hc 0 false 7,.v .s,.v (.i .i64),.v (.i .i64),.v (.i .i64),.v (.c (AV.sym 0)),.v (.i .i64),.v (.i .i64),.vec 0 6] (zAg s (ofNat j) dp m x.e x.f l) λn20 B n21 n22 n23 n24 n25 u=>zl B n21 n22 n23 n24 n25 k a [] n20 (Int.negSucc 0) (Int.negSucc 0) u) (zOs s l dp n x (zFy s j n k a)):=by
 have hk:=zBw w;have D:=zE0 zE s (sk s j) hk;obtain⟨y,A,p⟩:=zVi hs x dp m l j w;refine adI A ?_
 cases hx:x.ok with
 |false=>
  rw[FA.wC hx,ite_self];exact(zBW hs hx k a _ _ _ _ _ (by omega) m).mono λv b=>⟨λ_=>b,λh=>by rw[hx]at h;cases h⟩
 |true=>
  have:=FA.zero hx;subst this;have hm:=hm hx;subst hm;have t:=t.resolve_right (by rw[hx];decide)
  unfold zFy zHh;by_cases g:rn zE s (sk s j)=0
  .rw[if_pos g,FA.qF hx];have z:sk s j+min 12 (rn zE s (sk s j))=sk s j:=by omega
   have key:∀v,zB2 s ⟨5,ofNat (sk s j)⟩ v->zOs s l dp n ⟨0,0⟩ (match(if isAt wrdB s (sk s j+min 12 (rn zE s (sk s j)))=true then(.error (5,ofNat (sk s j+min 12 (rn zE s (sk s j)))):RE (Nat×Int))else if rn zE s (sk s j)=0 then .error (5,ofNat (sk s j))else .ok (sk s j+min 12 (rn zE s (sk s j)),ofNat (zER (cutS s (sk s j) (sk s j+min 12 (rn zE s (sk s j)))))))with|.error e=>.error e|.ok (j,x)=>.ok (j,n+1,.leaf k a [] x)) v:=λv b=>by
    refine⟨λh=>(by cases h),λ_=>?_⟩
    rw[if_pos g,z];split
    .rename_i e d;have d:e=(5,ofNat (sk s j)):=by
      split at d<;>cases d<;>rfl
     subst d;exact .inl ⟨fa5 _,b⟩
    .rename_i d;split at d<;>cases d
   exact(zBW hs (fa5 _) k a _ _ _ _ _ (by omega) _).mono λv b=>key v b
  .rw[if_neg g,if_neg g];refine(zHs hs k a _ _ _ _ _ _ q).mono λv b=>⟨λh=>(by cases h),λ_=>?_⟩
   by_cases r:isAt wrdB s (sk s j+min 12 (rn zE s (sk s j)))=true
   .rw[if_pos r];refine .inr ⟨rfl,_,_,n+1,_,rfl,r,t,?_,b⟩
    rw[QJ];show l.length+1+n<=_
    omega
   .rw[if_neg r,p g]at *;show v=_
    rw[zIf,b];rfl
theorem zIg(x:FA)(b:Bool)(j n:Nat)(m:Int)(a:List Nat)(p:j<=s.length)(hm:x.ok=true->m=ofNat (n+1))(q:n+1<=64\/x.ok=false)(k:l.length<=64)(r:RE (Nat×Nat×RT))(g:(b=true->r=.error (5,ofNat j))/\(b=false->r=.ok (j,n+1,.leaf 6 a [] 0))):
  Wp (zY b s (ofNat j) dp m x.e x.f (ofNat 6) a [] (ofNat 0) (Int.negSucc 0) (Int.negSucc 0) l) (zOs s l dp n x r):=by
 rw[zHC];refine Wa (λh=>adU (zDb x dp m l 5 _ _) ?_) λh=>?_
 .have g:=g.1 h;subst g;cases hx:x.ok with
  |false=>
   rw[FA.wC hx];exact(zBW hs hx _ a _ _ _ _ _ p m).mono λv d=>⟨λ_=>d,λh=>by rw[hx]at h;cases h⟩
  |true=>
   rw[FA.qF hx];exact(zBW hs (fa5 _) _ a _ _ _ _ _ p m).mono λv d=>⟨λh=>(by rw[hx]at h;cases h),λ_=>.inl ⟨fa5 _,d⟩⟩
 .have g:=g.2 h;subst g;cases hx:x.ok with
  |false=>exact(zBW hs hx _ a _ _ _ _ _ p m).mono λv d=>⟨λ_=>d,λh=>by rw[hx]at h;cases h⟩
  |true=>
   have:=FA.zero hx;subst this;have hm:=hm hx;subst hm;refine(zHs hs _ a _ _ _ _ _ _ k).mono λv d=>⟨λh=>(by cases h),λ_=>?_⟩
   show v=_
   rw[zIf,d];rfl
theorem zAV(x:FA)(t:List Nat)(i:Nat)(a:i<=s.length)(m:Int){β:Type}{P:β->Prop}{wk:Bool}{f:Bool->List Nat->Int->Int->Int->Int->Int->List AV->Option β}
  (h1:pfx s (sk s i) t=true->sk s i+t.length<=s.length->Wp (f true s (ofNat (sk s i+t.length)) dp m x.e x.f l) P) (g:pfx s (sk s i) t=false->Wp (f false s (ofNat (sk s i)) dp m x.e x.f l) P):
  Wp (dD wk [.v .b,.hc 0 false 7,.v .s,.v (.i .i64),.v (.i .i64),.v (.i .i64),.v (.c (AV.sym 0)),.v (.i .i64),.v (.i .i64),.vec 0 6] (zh t s (ofNat i) dp m x.e x.f l) f) P:=by
 refine adB (zag hs x dp m l t i a) ?_
 cases hp:pfx s (sk s i) t with
 |true=>
  have d:sk s i+t.length<=s.length:=by
   have:=congrArg List.length (Qc hp);rw[Qm,Qv]at this;have:=zBw a;omega
  exact h1 hp d
 |false=>exact g hp
theorem npf1{i c:Nat}(h:pfx s i [c]=false):¬s[i]?=some c:=λa=>by rw[pfx1.2 a]at h;cases h
theorem npf2{i c d:Nat}(h:pfx s i [c,d]=false):¬(s[i]?=some c/\s[i+1]?=some d):=λa=>by rw[pfx2.2 a]at h;cases h
theorem zTR(h8:∀c∈s,c<256)(i0:Int)(i n:Nat)(a:List Nat)(O:i<=s.length)(t:n<=64)(G:l.length<=n):
  Wp (zDe i0 a s (ofNat i) dp (ofNat n) 0 0 l) (zBN s l dp n (if 64<n+1 then .error (3,i0)else zBx s (sk s i) n a)):=by
 rw[zHD];refine adU (zIX ⟨0,0⟩ dp (ofNat n) l i0 _) ?_
 rw[zq (by omega)]
 have hk:=zBw O;have g:l.length<=64:=by omega
 have key:∀x:FA,(x.ok=true->ofNat (n+1)=ofNat (n+1))->(n+1<=64\/x.ok=false)->(∀r v,zOs s l dp n x r v->zBN s l dp n (if 64<n+1 then .error (3,i0)else r) v)->Wp (dD true [.v .b,.hc 0 false 7,.v .s,.v (.i .i64),.v (.i .i64),.v (.i .i64),.v (.c (AV.sym 0)),.v (.i .i64),.v (.i .i64),.vec 0 6] (zh [33,61] s (ofNat i) dp (ofNat (n+1)) x.e x.f l) (λW Q n10 n11 n12 n13 n14 A=>br W (dD true [.v .s,.hc 0 false 7,.v .s,.v (.i .i64),.v (.i .i64),.v (.i .i64),.v (.c (AV.sym 0)),.v (.i .i64),.v (.i .i64),.vec 0 6] (zAw Q n10 n11 n12 n13 n14 A) λF y n15 n16 n17 n18 n19 k=>zl y n15 n16 n17 n18 n19 (ofNat 3) a F (ofNat 0) (Int.negSucc 0) (Int.negSucc 0) k) (dD true [.v .b,.hc 0 false 7,.v .s,.v (.i .i64),.v (.i .i64),.v (.i .i64),.v (.c (AV.sym 0)),.v (.i .i64),.v (.i .i64),.vec 0 6] (zh [62,61] Q n10 n11 n12 n13 n14 A) λR F n15 n16 n17 n18 n19 k=>br R (dD true [.v (.i .i64),.hc 0 false 7,.v .s,.v (.i .i64),.v (.i .i64),.v (.i .i64),.v (.c (AV.sym 0)),.v (.i .i64),.v (.i .i64),.vec 0 6] (zAg F n15 n16 n17 n18 n19 k) λn20 y n21 n22 n23 n24 n25 p=>zl y n21 n22 n23 n24 n25 (ofNat 4) a [] n20 (Int.negSucc 0) (Int.negSucc 0) p) (dD true [.v .b,.hc 0 false 7,.v .s,.v (.i .i64),.v (.i .i64),.v (.i .i64),.v (.c (AV.sym 0)),.v (.i .i64),.v (.i .i64),.vec 0 6] (zh [60,61] F n15 n16 n17 n18 n19 k) λX y n20 n21 n22 n23 n24 p=>br X (dD true [.v (.i .i64),.hc 0 false 7,.v .s,.v (.i .i64),.v (.i .i64),.v (.i .i64),.v (.c (AV.sym 0)),.v (.i .i64),.v (.i .i64),.vec 0 6] (zAg y n20 n21 n22 n23 n24 p) λn25 D n26 n27 n28 n29 n30 j=>zl D n26 n27 n28 n29 n30 (ofNat 5) a [] n25 (Int.negSucc 0) (Int.negSucc 0) j) (dD true [.v .b,.hc 0 false 7,.v .s,.v (.i .i64),.v (.i .i64),.v (.i .i64),.v (.c (AV.sym 0)),.v (.i .i64),.v (.i .i64),.vec 0 6] (zh [61] y n20 n21 n22 n23 n24 p) λS D n25 n26 n27 n28 n29 j=>br S (dD true [.v .s,.hc 0 false 7,.v .s,.v (.i .i64),.v (.i .i64),.v (.i .i64),.v (.c (AV.sym 0)),.v (.i .i64),.v (.i .i64),.vec 0 6] (zAw D n25 n26 n27 n28 n29 j) λE H n30 n31 n32 n33 n34 q=>zl H n30 n31 n32 n33 n34 (ofNat 2) a E (ofNat 0) (Int.negSucc 0) (Int.negSucc 0) q) (dD true [.v .b,.hc 0 false 7,.v .s,.v (.i .i64),.v (.i .i64),.v (.i .i64),.v (.c (AV.sym 0)),.v (.i .i64),.v (.i .i64),.vec 0 6] (zh [33] D n25 n26 n27 n28 n29 j) λT E n30 n31 n32 n33 n34 q=>br T (zY true E n30 n31 n32 n33 n34 (ofNat 6) a [] (ofNat 0) (Int.negSucc 0) (Int.negSucc 0) q) (dD true [.v .b,.hc 0 false 7,.v .s,.v (.i .i64),.v (.i .i64),.v (.i .i64),.v (.c (AV.sym 0)),.v (.i .i64),.v (.i .i64),.vec 0 6] (zh [62] E n30 n31 n32 n33 n34 q) λV H n35 n36 n37 n38 n39 z=>br V (zY true H n35 n36 n37 n38 n39 (ofNat 6) a [] (ofNat 0) (Int.negSucc 0) (Int.negSucc 0) z) (dD true [.v .b,.hc 0 false 7,.v .s,.v (.i .i64),.v (.i .i64),.v (.i .i64),.v (.c (AV.sym 0)),.v (.i .i64),.v (.i .i64),.vec 0 6] (zh [60] H n35 n36 n37 n38 n39 z) λY U n40 n41 n42 n43 n44 L=>zY Y U n40 n41 n42 n43 n44 (ofNat 6) a [] (ofNat 0) (Int.negSucc 0) (Int.negSucc 0) L)))))))) (zBN s l dp n (if 64<n+1 then .error (3,i0)else zBx s (sk s i) n a)):=λx w t post=>by
  have u:∀{r},zBx s (sk s i) n a=r->∀v,zOs s l dp n x r v->zBN s l dp n (if 64<n+1 then .error (3,i0)else zBx s (sk s i) n a) v:=λh v C=>by rw[h];exact post _ v C
  refine zAV hs x [33,61] i O _ (λh d=>Wt rfl (?_)) λJ=>Wf rfl<|?_
  .have h:=pfx2.1 h;refine(zSb hs h8 x (sk s i+2) n _ 3 a d w t G g).mono (u ?_)
   unfold zBx;rw[if_neg (by rw[h.1];decide),if_pos h]
  refine zAV hs x [62,61] (sk s i) hk _ (λh d=>Wt rfl (?_)) λK=>Wf rfl<|?_
  .rw[zAt]at h d⊢;have h:=pfx2.1 h;refine(zSc hs x (sk s i+2) n _ 4 a d w t G g).mono (u ?_)
   unfold zBx;rw[if_neg (by rw[h.1];decide),if_neg (npf2 hs J),if_pos h]
  rw[zAt]at K⊢;refine zAV hs x [60,61] (sk s i) hk _ (λh d=>Wt rfl (?_)) λn3=>Wf rfl<|?_
  .rw[zAt]at h d⊢;have h:=pfx2.1 h;refine(zSc hs x (sk s i+2) n _ 5 a d w t G g).mono (u ?_)
   unfold zBx;rw[if_neg (by rw[h.1];decide),if_neg (npf2 hs J),if_neg (npf2 hs K),if_pos h]
  rw[zAt]at n3⊢;refine zAV hs x [61] (sk s i) hk _ (λh d=>Wt rfl (?_)) λn4=>Wf rfl<|?_
  .rw[zAt]at h d⊢;have h:=pfx1.1 h;refine(zSb hs h8 x (sk s i+1) n _ 2 a d w t G g).mono (u ?_)
   unfold zBx;rw[if_pos h]
  rw[zAt]at n4⊢;have I:zBx s (sk s i) n a=if s[sk s i]?=some 33\/s[sk s i]?=some 62\/s[sk s i]?=some 60 then .error (5,ofNat (sk s i+1))else .ok (sk s i,n+1,.leaf 6 a [] 0):=by
   unfold zBx;rw[if_neg (npf1 hs n4),if_neg (npf2 hs J),if_neg (npf2 hs K),if_neg (npf2 hs n3)]
  refine zAV hs x [33] (sk s i) hk _ (λh d=>Wt rfl (?_)) λM=>Wf rfl<|?_
  .rw[zAt]at h d⊢;have h:=pfx1.1 h;exact(zIg hs x true (sk s i+1) n _ a d w t g _ ⟨λ_=>by rw[I,if_pos (.inl h)],λh=>by cases h⟩).mono (u rfl)
  rw[zAt]at M⊢;refine zAV hs x [62] (sk s i) hk _ (λh d=>Wt rfl (?_)) λn6=>Wf rfl<|?_
  .rw[zAt]at h d⊢;have h:=pfx1.1 h;exact(zIg hs x true (sk s i+1) n _ a d w t g _ ⟨λ_=>by rw[I,if_pos (.inr (.inl h))],λh=>by cases h⟩).mono (u rfl)
  rw[zAt]at n6⊢;refine zAV hs x [60] (sk s i) hk _ (λh d=>?_) λn7=>?_
  .rw[zAt]at h d⊢;have h:=pfx1.1 h;exact(zIg hs x true (sk s i+1) n _ a d w t g _ ⟨λ_=>by rw[I,if_pos (.inr (.inr h))],λh=>by cases h⟩).mono (u rfl)
  .rw[zAt]at n7⊢;exact(zIg hs x false (sk s i) n _ a hk w t g _ ⟨λh=>(by cases h),λ_=>by rw[I,if_neg (by rintro (h|h|h);exact npf1 hs M h;exact npf1 hs n6 h;exact npf1 hs n7 h)]⟩).mono (u rfl)
 by_cases B:64<n+1
 .rw[if_pos (show(64:Int)<ofNat (n+1) by rw[QB];omega),FA.qF rfl]
  exact key ⟨3,i0⟩ (λ_=>rfl) (.inr (fa3 _)) λr v C=>by rw[if_pos B];exact .inl ⟨fa3 _,C.1 (fa3 _)⟩
 .rw[if_neg (show ¬(64:Int)<ofNat (n+1) by rw[QB];omega)]
  exact key ⟨0,0⟩ (λ_=>rfl) (.inl (by omega)) λr v C=>by rw[if_neg B];exact C.2 rfl
end
section
variable{s:List Nat}{l:List AV}{dp:Int}(hs:s.length<=65536)(h8:∀c∈s,c<256)
include hs h8
theorem zOI{i:Nat}(a:i<s.length):zBY (ofNat s[i])=some (.bool (isAt wrdB s i)):=by
 rw[zCF a];exact zKq _ (h8 _ (Qi a))
theorem zYd(i n:Nat)(C:i<=s.length)(I:n<=64)(H:l.length<=n):Wp (zCL s (ofNat i) dp (ofNat n) 0 0 l) (zBN s l dp n (zBQ s i n)):=by
 have A:l.length<=64:=by omega
 have L:=zE0 namB s i C;have q:i+min 24 (rn namB s i)<=s.length:=by omega
 have g:∀{j:Nat},j<=s.length->Wp (dD true [.v (.qg 0),.hc 0 false 7,.v .s,.v (.i .i64),.v (.i .i64),.v (.i .i64),.v (.c (AV.sym 0)),.v (.i .i64),.v (.i .i64),.vec 0 6] (zx (ofNat 5) (ofNat j) s (ofNat j) dp (ofNat n) 0 0 l) λF E n6 n7 n8 G z=>some (AV.int .i64 (Int.negSucc 0),[(0,HO.cells false [AV.str F,AV.int .i64 E,AV.int .i64 n6,AV.int .i64 n7,AV.sym 0,AV.int .i64 n8,AV.int .i64 G])],[(0,VI.vec 6 z)])) (zBN s l dp n (.error (5,ofNat j))):=λ{j} J=>by
  refine adU (zDb ⟨0,0⟩ dp (ofNat n) l 5 _ _) ?_
  rw[FA.qF rfl];exact Wb (.inl ⟨fa5 _,_,_,_,_,_,J,rfl⟩)
 have D:∀b:Bool,b=isAt wrdB s (i+min 24 (rn namB s i))->isAt zAP s i=true->(isAt wrdB s (i+min 24 (rn namB s i))=false->cutS s i (i+min 24 (rn namB s i))≠[97,110,121])->Wp (zBS (ofNat i) (cutS s i (i+min 24 (rn namB s i))) b s (ofNat (i+min 24 (rn namB s i))) dp (ofNat n) 0 0 l) (zBN s l dp n (zBQ s i n)):=λb e a k=>by
  rw[zHE];unfold zBQ;rw[if_neg (by rw[a];decide)]
  refine Wa (λh=>?_) λh=>?_
  .rw[if_pos (by rw[←e];exact h)]
   exact g q
  .rw[if_neg (by rw[←e,h];decide),if_neg (k (by rw[←e];exact h))]
   exact zTR hs h8 _ _ n _ q I H
 have K:isAt zAP s i=true->(isAt wrdB s (i+min 24 (rn namB s i))=false->cutS s i (i+min 24 (rn namB s i))≠[97,110,121])->Wp (zDf (ofNat i) (cutS s i (i+min 24 (rn namB s i))) s (ofNat (i+min 24 (rn namB s i))) dp (ofNat n) 0 0 l) (zBN s l dp n (zBQ s i n)):=λa k=>by
  rw[zHF];refine Wd (λd=>Wp.bd (R:=λc=>c=s[i+min 24 (rn namB s i)]) ⟨_,zDW d,rfl⟩ λc hc=>?_) λp=>D _ (zCX p).symm a k
  subst hc;exact qk_b (zOI hs h8 d) (D _ rfl a k)
 have y:∀b:Bool,b=decide (cutS s i (i+min 24 (rn namB s i))=[97,110,121]/\isAt wrdB s (i+min 24 (rn namB s i))=false)->isAt zAP s i=true->Wp (zAW (ofNat i) (cutS s i (i+min 24 (rn namB s i))) b s (ofNat (i+min 24 (rn namB s i))) dp (ofNat n) 0 0 l) (zBN s l dp n (zBQ s i n)):=λb e a=>by
  rw[zHJ];refine Wa (λh=>adU (zIX ⟨0,0⟩ dp (ofNat n) l _ _) ?_) λh=>?_
  .rw[h]at e;obtain⟨h1,u⟩:=Qc e.symm;unfold zBQ;rw[if_neg (show ¬isAt zAP s i=false by rw[a];decide),if_neg (show ¬isAt wrdB s (i+min 24 (rn namB s i))=true by rw[u];decide),zq (by omega)]
   by_cases r:64<n+1
   .rw[if_pos (show(64:Int)<ofNat (n+1) by rw[QB];omega),if_pos r,FA.qF rfl]
    exact adI (zCJ ⟨3,ofNat i⟩ dp _ l _ _ _ _ _ _ _ (fa3 _)) (Wb (.inl ⟨fa3 _,_,_,_,_,_,q,rfl⟩))
   .rw[if_neg (show ¬(64:Int)<ofNat (n+1) by rw[QB];omega),if_neg r,if_pos h1]
    refine adI (zDr ⟨0,0⟩ dp _ l _ _ _ _ _ _ _ rfl A) (Wb ?_)
    show _=zAm (.int .i64 (ofNat (l.length+(RT.leaf 1 [] [] 0).size-1))) s _ _ _ _ _
    rw[zIf];rfl
  .rw[h]at e;have e:=Qz e.symm;exact K a λh1 u=>e ⟨u,h1⟩
 have w:∀b:Bool,b=!isAt zAP s i->Wp (zAX (ofNat i) b s (ofNat i) dp (ofNat n) 0 0 l) (zBN s l dp n (zBQ s i n)):=λb e=>by
  rw[zHH];refine Wa (λh=>?_) λh=>?_
  .have a:isAt zAP s i=false:=by rw[h]at e;simpa using e
   unfold zBQ;rw[if_pos a];exact g C
  .have a:isAt zAP s i=true:=by rw[h]at e;simpa using e
   rw[zHG];refine adS (zST hs ⟨0,0⟩ dp (ofNat n) l 24 (by decide) i C) ?_
   rw[zAG];refine Wc (λt=>Wd (λd=>Wp.bd (R:=λc=>c=s[i+min 24 (rn namB s i)]) ⟨_,zDW d,rfl⟩ λc hc=>?_) λp=>y _ ?_ a) λt=>y _ ?_ a
   .subst hc;refine qk_b (zOI hs h8 d) (y _ ?_ a)
    cases isAt wrdB s (i+min 24 (rn namB s i))<;>simp[t]
   .rw[zCX p];simp[t]
   .simp[t]
 rw[zI3];refine Wa (λh=>w _ ?_) λh=>?_
 .have h:i=s.length:=zV4.1 h;rw[zCX (by omega)];rfl
 .have h:i≠s.length:=zWp.1 h;have d:i<s.length:=by omega
  refine Wp.bd (R:=λc=>c=s[i]) ⟨_,zDW d,rfl⟩ λc hc=>Wc (λh1=>w _ ?_) λh1=>Wp.bd (R:=λc=>c=s[i]) ⟨_,zDW d,rfl⟩ λc2 B=>w _ ?_
  .subst hc;rw[zCF d];unfold zAP;rw[Qr (by rw[QB]at h1;omega)];rfl
  .subst hc;subst B;rw[zCF d];unfold zAP;rw[←decide_not];exact decide_eq_decide.2 (by rw[QB]at h1⊢;omega)
end
theorem zWN{s:List Nat}(hs:s.length<=65536){x:FA}(hx:x.ok=false){l:List AV}{dp n:Int}{d i:Nat}(a:i<=s.length):Wp (zZ (d+1) s (ofNat i) dp n x.e x.f l) (zB2 s x):=by
 rw[zDG];refine adU (zBq hs x dp n l i a) (Wa (λ_=>Wb ⟨_,_,_,_,_,zBw a,rfl⟩) λh=>?_)
 exfalso
 have h:(match x.ok with|true=>false|false=>true)=false:=by
  revert h
  unfold FA.ok;cases (x.e==0&&x.f==0)<;>intro h<;>first|rfl|exact h
 rw[hx]at h;cases h
abbrev zOt(s:List Nat)(l:List AV)(i n:Nat):Prop:=i<=s.length/\n<=64/\l.length<=n
def zV7(s:List Nat)(g:Nat):Prop:=∀(d:Nat)(l:List AV)(i n:Nat),5*g+1<=d->zOt s l i n->Wp (zZ d s (ofNat i) (ofNat (32-g)) (ofNat n) 0 0 l) (zBN s l (ofNat (32-g)) n (zC4 s g i n))
def APN(s:List Nat)(g:Nat):Prop:=∀(d:Nat)(l:List AV)(i n:Nat),5*g+2<=d->zOt s l i n->Wp (z5 d [38] 8 s (ofNat i) (ofNat (32-g)) (ofNat n) 0 0 l) (zBN s l (ofNat (32-g)) n (andM s g i n))
def zV8(s:List Nat)(g:Nat):Prop:=∀(d:Nat)(l:List AV)(i n:Nat),5*g+3<=d->zOt s l i n->Wp (zAD d s (ofNat i) (ofNat (32-g)) (ofNat n) 0 0 l) (zBN s l (ofNat (32-g)) n (andM s g i n))
def APA(s:List Nat)(g:Nat):Prop:=∀(d:Nat)(l:List AV)(i n:Nat),5*g+4<=d->zOt s l i n->Wp (zAA d [124] 9 s (ofNat i) (ofNat (32-g)) (ofNat n) 0 0 l) (zBN s l (ofNat (32-g)) n (orM s g i n))
def AOr(s:List Nat)(g:Nat):Prop:=∀(d:Nat)(l:List AV)(i n:Nat),5*g+5<=d->zOt s l i n->Wp (zDB d s (ofNat i) (ofNat (32-g)) (ofNat n) 0 0 l) (zBN s l (ofNat (32-g)) n (orM s g i n))
theorem zBN.cases{s:List Nat}{l:List AV}{dp:Int}{n0:Nat}{r:RE (Nat×Nat×RT)}{v:AV×Heap×Vecs}(g:zBN s l dp n0 r v):
  (∃i n t,r=.ok (i,n,t)/\v=zAm (.int .i64 (ofNat (l.length+t.size-1))) s (ofNat i) dp (ofNat n) ⟨0,0⟩ (l++t.fl l.length)) ∨
  (∃e f,r=.error (e,f)/\(FA.mk e f).ok=false/\∃(y:Int) (i:Nat) (d n:Int) (a:List AV),i<=s.length/\v=zAm (.int .i64 y) s (ofNat i) d n ⟨e,f⟩ a) ∨
  (∃(y:Int) (i n':Nat) (a:List AV),r=.error (5,ofNat i)/\isAt wrdB s i=true/\n'<=64/\a.length+n0<=l.length+n'/\v=zAm (.int .i64 y) s (ofNat i) dp (ofNat n') ⟨0,0⟩ a):=by
 cases r with
 |ok r=>obtain⟨i,n,t⟩:=r;exact .inl ⟨i,n,t,rfl,g⟩
 |error e=>
  obtain⟨e,f⟩:=e;rcases g with⟨h1,b⟩|⟨j,y,i,n',a,h1,b,k,h,p⟩
  .exact .inr (.inl ⟨e,f,rfl,h1,b⟩)
  .subst j;subst h1;exact .inr (.inr ⟨y,i,n',a,rfl,b,k,h,p⟩)
theorem zMP{s:List Nat}{x:FA}(hx:x.ok=false){l:List AV}{dp n left:Int}{d N:Nat}{i:Nat}(a:i<=s.length){t:List Nat}{k:Int}:Wp (zA d (N+1) t k left s (ofNat i) dp n x.e x.f l) (zB2 s x):=by
 rw[zAc];refine Wa (λh=>?_) λ_=>Wb ⟨_,_,_,_,_,a,rfl⟩
 exfalso
 have h:x.ok=true:=h;rw[hx]at h;cases h
theorem zSd{s:List Nat}(hs:s.length<=65536){l:List AV}{dp n left:Int}{d N:Nat}{i c:Nat}{k:Int}(b:isAt wrdB s i=true)(hc:wrdB c=false):zA d (N+1) [c] k left s (ofNat i) dp n 0 0 l=some (zAm (.int .i64 left) s (ofNat i) dp n ⟨0,0⟩ l):=by
 have e:=zHg b;have a:=zGj (zGY b);refine zj ?_
 rw[zAc];refine Wt rfl (adU (zBq hs ⟨0,0⟩ dp n l i (by omega)) ?_)
 rw[a];refine zAV hs ⟨0,0⟩ [c] i (by omega) n (λh=>?_) λ_=>Wt rfl (Wb (by rw[a]))
 rw[a,zMg b hc]at h;cases h
theorem zWO{s:List Nat}(hs:s.length<=65536){g:Nat}(h1:zV7 s g)(A:∀{x:FA},x.ok=false->∀{l:List AV}{dp n:Int}{d i:Nat},1<=d->i<=s.length->Wp (zZ d s (ofNat i) dp n x.e x.f l) (zB2 s x)){d:Nat}(H:5*g+1<=d)(l:List AV)(n0:Nat):∀(N b i n:Nat)(t:RT),n<=64->65<=n+b->b<N->l.length+t.size<=n->t.size+n0<=n->i<=s.length →
  Wp (zA d N [38] 8 (ofNat (l.length+t.size-1)) s (ofNat i) (ofNat (32-g)) (ofNat n) 0 0 (l++t.fl l.length)) (zBN s l (ofNat (32-g)) n0 (zDw (zC4 s g) s 38 8 b i n t)):=by
 intro N
 induction N with
 |zero=>intro b i n t _ _ h;omega
 |succ N Q=>
  intro b i n t T U V S R G;obtain⟨b,rfl⟩:∃k,b=k+1:=⟨b-1,by omega⟩
  obtain⟨N,rfl⟩:∃k,N=k+1:=⟨N-1,by omega⟩
  have hk:=zBw G;rw[zAc,zDw];refine Wt rfl (adU (zBq hs ⟨0,0⟩ _ (ofNat n) _ i G) (zAV hs ⟨0,0⟩ [38] (sk s i) hk _ (λh a=>Wf rfl<|?_) λh=>Wt rfl (?_)))
  .rw[zAt]at h a⊢;have h:=pfx1.1 h;have a:sk s i+1<=s.length:=a;rw[if_pos h];refine adU (zIX ⟨0,0⟩ _ (ofNat n) _ _ _) ?_
   rw[zq (by omega)]
   by_cases D:64<n+1
   .rw[if_pos (show(64:Int)<ofNat (n+1) by rw[QB];omega),if_pos D,FA.qF rfl]
    obtain⟨v,j,y,C,r,p,B,q,rfl⟩:=A (x:=⟨3,ofNat (sk s i)⟩) (fa3 _) (l:=l++t.fl l.length) (dp:=ofNat (32-g)) (n:=ofNat (n+1)) (d:=d) (by omega) a
    refine adI j (adI (zCJ ⟨3,ofNat (sk s i)⟩ r p B _ _ _ _ _ _ _ (fa3 _)) ((zMP (x:=⟨3,ofNat (sk s i)⟩) (fa3 _) q).mono λv j=>.inl ⟨fa3 _,j⟩))
   .rw[if_neg (show ¬(64:Int)<ofNat (n+1) by rw[QB];omega),if_neg D]
    have I:(l++t.fl l.length).length=l.length+t.size:=by rw[QJ,RT.fl_length]
    obtain⟨v,j,L⟩:=h1 d (l++t.fl l.length) (sk s i+1) (n+1) H ⟨a,by omega,by omega⟩
    rcases L.cases with⟨C,p,u,z,rfl⟩|⟨e,f,z,w,y,C,r,p,B,q,rfl⟩|⟨y,C,p,B,z,F,E,M,rfl⟩
    .rw[z];obtain⟨g1,g2,g3,g4,g5⟩:=zLo s g _ _ _ _ _ a (by omega) z
     have K:(RT.two 8 t u).size=t.size+u.size+1:=rfl;have O:(l++t.fl l.length++u.fl (l++t.fl l.length).length).length=l.length+(RT.two 8 t u).size-1:=by
      rw[QJ,RT.fl_length,QJ,RT.fl_length];omega
     refine adI j (adI (zDr ⟨0,0⟩ _ _ _ _ _ _ _ _ _ _ rfl (by omega)) ?_)
     have J:=zTP l 8 t u;rw[O];have:=Q b C p (.two 8 t u) g4 (by omega) (by omega) (by omega) (by omega) g2
     rw[←J]at this;exact this
    .rw[z];refine adI j (adI (zCJ ⟨e,f⟩ r p B _ _ _ _ _ _ _ w) ((zMP (x:=⟨e,f⟩) w q).mono λv j=>.inl ⟨w,j⟩))
    .rw[z];refine adI j (adI (zDr ⟨0,0⟩ _ _ _ _ _ _ _ _ _ _ rfl (by omega)) ⟨_,zSd hs F (by decide),.inr ⟨rfl,_,C,p,_,rfl,F,E,?_,rfl⟩⟩)
     rw[QJ];show B.length+1+n0<=_
     omega
  .rw[zAt]at h⊢;rw[if_neg (npf1 hs h)];exact Wb rfl
theorem zZi{s:List Nat}(hs:s.length<=65536){g:Nat}(h1:zV7 s g)(b:∀{x:FA},x.ok=false->∀{l:List AV}{dp n:Int}{d i:Nat},1<=d->i<=s.length->Wp (zZ d s (ofNat i) dp n x.e x.f l) (zB2 s x)):APN s g:=by
 intro d l i n G z;obtain⟨d,rfl⟩:∃k,d=k+1:=⟨d-1,by omega⟩
 rw[zBo];obtain⟨v,j,E⟩:=h1 d l i n (by omega) z
 obtain⟨D,B,H⟩:=z;show Wp _ (zBN s l _ n (zBn (zC4 s g) s 38 8 i n))
 unfold zBn;rw[show zg=1180591620717411303423+1 from zHo]
 rcases E.cases with⟨q,p,u,a,rfl⟩|⟨e,f,a,h,y,q,C,p,F,r,rfl⟩|⟨y,q,p,F,a,A,t,w,rfl⟩
 .rw[a];obtain⟨g1,g2,g3,g4,g5⟩:=zLo s g _ _ _ _ _ D B a;exact adI j (zWO hs h1 b (by omega) l n _ 65 q p u g4 (by omega) (by omega) (by omega) (by omega) g2)
 .rw[a];exact adI j ((zMP (x:=⟨e,f⟩) h r).mono λv j=>.inl ⟨h,j⟩)
 .rw[a];exact adI j ⟨_,zSd hs A (by decide),.inr ⟨rfl,_,q,p,_,rfl,A,t,w,rfl⟩⟩
theorem zSV{s:List Nat}(hs:s.length<=65536)(a:∀{x:FA},x.ok=false->∀{l:List AV}{dp n:Int}{d i:Nat},1<=d->i<=s.length->Wp (zZ d s (ofNat i) dp n x.e x.f l) (zB2 s x)){x:FA}(hx:x.ok=false){t:List Nat}{k:Int}{l:List AV}{dp n:Int}{d i:Nat}(p:1+1<=d)(h:i<=s.length):Wp (z5 d t k s (ofNat i) dp n x.e x.f l) (zB2 s x):=by
 obtain⟨d,rfl⟩:∃k,d=k+1:=⟨d-1,by omega⟩
 rw[zBo];obtain⟨v,j,y,u,g,q,r,b,rfl⟩:=a hx (l:=l) (dp:=dp) (n:=n) (d:=d) (by omega) h
 rw[show zg=1180591620717411303423+1 from zHo]
 exact adI j (zMP hx b)
theorem zSe{s:List Nat}{g:Nat}(h:APN s g):zV8 s g:=by
 intro d l i n D w;obtain⟨d,rfl⟩:∃k,d=k+1:=⟨d-1,by omega⟩
 rw[zFD];obtain⟨v,b,a⟩:=h d l i n (by omega) w
 rcases a.cases with⟨q,j,u,p,rfl⟩|⟨e,f,p,B,y,q,t,j,C,r,rfl⟩|⟨y,q,j,C,p,E,z,A,rfl⟩
 .exact adI b (Wb a)
 .exact adI b (Wb a)
 .exact adI b (Wb a)
theorem zJk{s:List Nat}(hs:s.length<=65536):∀{x:FA},x.ok=false->∀{l:List AV}{dp n:Int}{d i:Nat},1<=d->i<=s.length->Wp (zZ d s (ofNat i) dp n x.e x.f l) (zB2 s x):=by
 intro x b l dp n d i g a;obtain⟨d,rfl⟩:∃k,d=k+1:=⟨d-1,by omega⟩
 exact zWN hs b a
theorem zP8{s:List Nat}(hs:s.length<=65536):∀{x:FA},x.ok=false->∀{l:List AV}{dp n:Int}{d i:Nat},3<=d->i<=s.length->Wp (zAD d s (ofNat i) dp n x.e x.f l) (zB2 s x):=by
 intro x h l dp n d i p g;obtain⟨d,rfl⟩:∃k,d=k+1:=⟨d-1,by omega⟩
 rw[zFD];obtain⟨v,j,y,u,b,q,r,a,rfl⟩:=zSV hs (zJk hs) h (t:=[38]) (k:=ofNat 8) (l:=l) (dp:=dp) (n:=n) (d:=d) (by omega) g
 exact adI j (Wb ⟨_,_,_,_,_,a,rfl⟩)
theorem zP9{s:List Nat}{x:FA}(hx:x.ok=false){l:List AV}{dp n left:Int}{d N:Nat}{i:Nat}(a:i<=s.length){t:List Nat}{k:Int}:Wp (zy d (N+1) t k left s (ofNat i) dp n x.e x.f l) (zB2 s x):=by
 rw[zAb];refine Wa (λh=>?_) λ_=>Wb ⟨_,_,_,_,_,a,rfl⟩
 exfalso
 have h:x.ok=true:=h;rw[hx]at h;cases h
theorem zSf{s:List Nat}(hs:s.length<=65536){l:List AV}{dp n left:Int}{d N:Nat}{i c:Nat}{k:Int}(b:isAt wrdB s i=true)(hc:wrdB c=false):zy d (N+1) [c] k left s (ofNat i) dp n 0 0 l=some (zAm (.int .i64 left) s (ofNat i) dp n ⟨0,0⟩ l):=by
 have e:=zHg b;have a:=zGj (zGY b);refine zj ?_
 rw[zAb];refine Wt rfl (adU (zBq hs ⟨0,0⟩ dp n l i (by omega)) ?_)
 rw[a];refine zAV hs ⟨0,0⟩ [c] i (by omega) n (λh=>?_) λ_=>Wt rfl (Wb (by rw[a]))
 rw[a,zMg b hc]at h;cases h
theorem zWP{s:List Nat}(hs:s.length<=65536){g:Nat}(h1:zV8 s g)(A:∀{x:FA},x.ok=false->∀{l:List AV}{dp n:Int}{d i:Nat},3<=d->i<=s.length->Wp (zAD d s (ofNat i) dp n x.e x.f l) (zB2 s x)){d:Nat}(H:5*g+3<=d)(l:List AV)(n0:Nat):∀(N b i n:Nat)(t:RT),n<=64->65<=n+b->b<N->l.length+t.size<=n->t.size+n0<=n->i<=s.length →
  Wp (zy d N [124] 9 (ofNat (l.length+t.size-1)) s (ofNat i) (ofNat (32-g)) (ofNat n) 0 0 (l++t.fl l.length)) (zBN s l (ofNat (32-g)) n0 (zDw (andM s g) s 124 9 b i n t)):=by
 intro N
 induction N with
 |zero=>intro b i n t _ _ h;omega
 |succ N Q=>
  intro b i n t T U V S R G;obtain⟨b,rfl⟩:∃k,b=k+1:=⟨b-1,by omega⟩
  obtain⟨N,rfl⟩:∃k,N=k+1:=⟨N-1,by omega⟩
  have hk:=zBw G;rw[zAb,zDw];refine Wt rfl (adU (zBq hs ⟨0,0⟩ _ (ofNat n) _ i G) (zAV hs ⟨0,0⟩ [124] (sk s i) hk _ (λh a=>Wf rfl<|?_) λh=>Wt rfl (?_)))
  .rw[zAt]at h a⊢;have h:=pfx1.1 h;have a:sk s i+1<=s.length:=a;rw[if_pos h];refine adU (zIX ⟨0,0⟩ _ (ofNat n) _ _ _) ?_
   rw[zq (by omega)]
   by_cases D:64<n+1
   .rw[if_pos (show(64:Int)<ofNat (n+1) by rw[QB];omega),if_pos D,FA.qF rfl]
    obtain⟨v,j,y,C,r,p,B,q,rfl⟩:=A (x:=⟨3,ofNat (sk s i)⟩) (fa3 _) (l:=l++t.fl l.length) (dp:=ofNat (32-g)) (n:=ofNat (n+1)) (d:=d) (by omega) a
    refine adI j (adI (zCJ ⟨3,ofNat (sk s i)⟩ r p B _ _ _ _ _ _ _ (fa3 _)) ((zP9 (x:=⟨3,ofNat (sk s i)⟩) (fa3 _) q).mono λv j=>.inl ⟨fa3 _,j⟩))
   .rw[if_neg (show ¬(64:Int)<ofNat (n+1) by rw[QB];omega),if_neg D]
    have I:(l++t.fl l.length).length=l.length+t.size:=by rw[QJ,RT.fl_length]
    obtain⟨v,j,L⟩:=h1 d (l++t.fl l.length) (sk s i+1) (n+1) H ⟨a,by omega,by omega⟩
    rcases L.cases with⟨C,p,u,z,rfl⟩|⟨e,f,z,w,y,C,r,p,B,q,rfl⟩|⟨y,C,p,B,z,F,E,M,rfl⟩
    .rw[z];obtain⟨g1,g2,g3,g4,g5⟩:=zNY s g _ _ _ _ _ a (by omega) z
     have K:(RT.two 9 t u).size=t.size+u.size+1:=rfl;have O:(l++t.fl l.length++u.fl (l++t.fl l.length).length).length=l.length+(RT.two 9 t u).size-1:=by
      rw[QJ,RT.fl_length,QJ,RT.fl_length];omega
     refine adI j (adI (zDr ⟨0,0⟩ _ _ _ _ _ _ _ _ _ _ rfl (by omega)) ?_)
     have J:=zTP l 9 t u;rw[O];have:=Q b C p (.two 9 t u) g4 (by omega) (by omega) (by omega) (by omega) g2
     rw[←J]at this;exact this
    .rw[z];refine adI j (adI (zCJ ⟨e,f⟩ r p B _ _ _ _ _ _ _ w) ((zP9 (x:=⟨e,f⟩) w q).mono λv j=>.inl ⟨w,j⟩))
    .rw[z];refine adI j (adI (zDr ⟨0,0⟩ _ _ _ _ _ _ _ _ _ _ rfl (by omega)) ⟨_,zSf hs F (by decide),.inr ⟨rfl,_,C,p,_,rfl,F,E,?_,rfl⟩⟩)
     rw[QJ];show B.length+1+n0<=_
     omega
  .rw[zAt]at h⊢;rw[if_neg (npf1 hs h)];exact Wb rfl
theorem zZj{s:List Nat}(hs:s.length<=65536){g:Nat}(h1:zV8 s g)(b:∀{x:FA},x.ok=false->∀{l:List AV}{dp n:Int}{d i:Nat},3<=d->i<=s.length->Wp (zAD d s (ofNat i) dp n x.e x.f l) (zB2 s x)):APA s g:=by
 intro d l i n G z;obtain⟨d,rfl⟩:∃k,d=k+1:=⟨d-1,by omega⟩
 rw[zD6];obtain⟨v,j,E⟩:=h1 d l i n (by omega) z
 obtain⟨D,B,H⟩:=z;show Wp _ (zBN s l _ n (zBn (andM s g) s 124 9 i n))
 unfold zBn;rw[show zg=1180591620717411303423+1 from zHo]
 rcases E.cases with⟨q,p,u,a,rfl⟩|⟨e,f,a,h,y,q,C,p,F,r,rfl⟩|⟨y,q,p,F,a,A,t,w,rfl⟩
 .rw[a];obtain⟨g1,g2,g3,g4,g5⟩:=zNY s g _ _ _ _ _ D B a;exact adI j (zWP hs h1 b (by omega) l n _ 65 q p u g4 (by omega) (by omega) (by omega) (by omega) g2)
 .rw[a];exact adI j ((zP9 (x:=⟨e,f⟩) h r).mono λv j=>.inl ⟨h,j⟩)
 .rw[a];exact adI j ⟨_,zSf hs A (by decide),.inr ⟨rfl,_,q,p,_,rfl,A,t,w,rfl⟩⟩
theorem zTS{s:List Nat}{g:Nat}(h:APA s g):AOr s g:=by
 intro d l i n D w;obtain⟨d,rfl⟩:∃k,d=k+1:=⟨d-1,by omega⟩
 rw[zKf];obtain⟨v,b,a⟩:=h d l i n (by omega) w
 rcases a.cases with⟨q,j,u,p,rfl⟩|⟨e,f,p,B,y,q,t,j,C,r,rfl⟩|⟨y,q,j,C,p,E,z,A,rfl⟩
 .exact adI b (Wb a)
 .exact adI b (Wb a)
 .exact adI b (Wb a)
theorem zQa{s:List Nat}(hs:s.length<=65536)(h8:∀c∈s,c<256){l:List AV}{i n:Nat}{dp:Int}(b:zOt s l i n):Wp (dD true [.v (.i .i64),.hc 0 false 7,.v .s,.v (.i .i64),.v (.i .i64),.v (.i .i64),.v (.c (AV.sym 0)),.v (.i .i64),.v (.i .i64),.vec 0 6] (zCL s (ofNat i) dp (ofNat n) 0 0 l) λn15 z n16 n17 n18 n19 n20 g=>some (AV.int .i64 n15,[(0,HO.cells false [AV.str z,AV.int .i64 n16,AV.int .i64 n17,AV.int .i64 n18,AV.sym 0,AV.int .i64 n19,AV.int .i64 n20])],[(0,VI.vec 6 g)])) (zBN s l dp n (zBQ s i n)):=by
 obtain⟨v,d,a⟩:=zYd (l:=l) (dp:=dp) hs h8 i n b.1 b.2.1 b.2.2;rcases a.cases with⟨k,h,u,j,rfl⟩|⟨e,f,j,w,y,k,q,h,A,p,rfl⟩|⟨y,k,h,A,j,B,r,t,rfl⟩
 .exact adI d (Wb a)
 .exact adI d (Wb a)
 .exact adI d (Wb a)
theorem zJl{s:List Nat}{l:List AV}{d:Nat}{y i dp n:Int}{x:FA}{b:Bool}:zB6 d y b s i dp n x.e x.f l=some (zAm (.int .i64 y) s i dp n (if b=true then x.fail 5 i else x) l):=by
 refine zj ?_
 rw[zIb];refine Wa (λh=>adU (zDb x dp n l 5 i i) ?_) λh=>?_
 .rw[zEO,if_pos h];exact Wb rfl
 .rw[zEO,if_neg (by rw[h];decide)];exact Wb rfl
theorem zZG{s:List Nat}(hs:s.length<=65536)(h8:∀c∈s,c<256):∀g,g<=32->zV7 s g:=by
 intro g
 induction g with
 |zero=>
  intro _ d l i n T O;obtain⟨d,rfl⟩:∃k,d=k+1:=⟨d-1,by omega⟩
  obtain⟨G,E,K⟩:=O;have hk:=zBw G;rw[zDG,zC4];have B:s[sk s i]?=some 33\/s[sk s i]?=some 40->∀v,zB2 s ⟨3,ofNat (sk s i)⟩ v->zBN s l (ofNat (32-0)) n (if s[sk s i]?=some 33\/s[sk s i]?=some 40 then .error (3,ofNat (sk s i))else zBQ s (sk s i) n) v:=λh v A=>by
   rw[if_pos h];exact .inl ⟨fa3 _,A⟩
  refine adU (zBq hs ⟨0,0⟩ _ (ofNat n) l i G) (Wf rfl<|zAV hs ⟨0,0⟩ [33] (sk s i) hk _ (λh a=>Wt rfl (adB (zOH ⟨0,0⟩ _ _ l _ _ rfl) (Wt rfl (Wb ?_)))) λw=>Wf rfl<|?_)
  .rw[zAt]at h a;refine B (.inl (pfx1.1 h)) _ ?_
   rw[FA.qF rfl];exact⟨_,sk s (sk s i)+[33].length,_,_,_,by rw[zAt];exact a,rfl⟩
  rw[zAt]at w⊢;refine zAV hs ⟨0,0⟩ [40] (sk s i) hk _ (λh a=>Wt rfl (adB (zOH ⟨0,0⟩ _ _ l _ _ rfl) (Wt rfl (Wb ?_)))) λq=>Wf rfl<|?_
  .rw[zAt]at h a;refine B (.inr (pfx1.1 h)) _ ?_
   rw[FA.qF rfl];exact⟨_,sk s (sk s i)+[40].length,_,_,_,by rw[zAt];exact a,rfl⟩
  rw[zAt]at q⊢;rw[if_neg (by rintro (h|h);exact npf1 hs w h;exact npf1 hs q h)]
  exact zQa hs h8 ⟨hk,E,K⟩
 |succ g L=>
  intro X d l i n T O;have L:=L (by omega)
  have S:AOr s g:=zTS (zZj hs (zSe (zZi hs L (zJk hs))) (zP8 hs));obtain⟨d,rfl⟩:∃k,d=k+1:=⟨d-1,by omega⟩
  obtain⟨G,E,K⟩:=O;have hk:=zBw G;have deep:ofNat (32-(g+1))+1=ofNat (32-g):=by rw[QB,QB];omega
  have t:wrapx .i64 (ofNat (32-g)-1)=ofNat (32-(g+1)):=by rw[zCw (by rw[QB];omega) (by rw[QB];omega),QB,QB];omega
  have d1:ofNat (32-(g+1))+1<=32:=by rw[QB];omega
  have d0:0<=ofNat (32-(g+1)):=Qf _;rw[zDG,zC4];refine adU (zBq hs ⟨0,0⟩ _ (ofNat n) l i G) (Wf rfl<|zAV hs ⟨0,0⟩ [33] (sk s i) hk _ (λh a=>Wt rfl (?_)) λw=>Wf rfl<|?_)
  .rw[zAt]at h a⊢;have h:=pfx1.1 h;have a:sk s i+1<=s.length:=a;rw[if_pos h];refine adB (zSa ⟨0,0⟩ _ _ l _ _ d1 d0) (Wf rfl<|adU (zIX ⟨0,0⟩ _ (ofNat n) _ _ _) ?_)
   rw[zq (by omega),deep]
   by_cases J:64<n+1
   .rw[if_pos (show(64:Int)<ofNat (n+1) by rw[QB];omega),if_pos J,FA.qF rfl]
    obtain⟨v,A,y,b,F,p,D,r,rfl⟩:=zJk hs (x:=⟨3,ofNat (sk s i)⟩) (fa3 _) (l:=l) (dp:=ofNat (32-g)) (n:=ofNat (n+1)) (d:=d) (by omega) a
    exact adI A (adI (zCJ ⟨3,ofNat (sk s i)⟩ _ p D _ _ _ _ _ _ _ (fa3 _)) (Wb (.inl ⟨fa3 _,_,_,_,_,_,r,rfl⟩)))
   .rw[if_neg (show ¬(64:Int)<ofNat (n+1) by rw[QB];omega),if_neg J]
    obtain⟨v,A,Q⟩:=L d l (sk s i+1) (n+1) (by omega) ⟨a,by omega,by omega⟩
    rcases Q.cases with⟨b,p,u,j,rfl⟩|⟨e,f,j,z,y,b,F,p,D,r,rfl⟩|⟨y,b,p,D,j,H,I,R,rfl⟩
    .rw[j];obtain⟨g1,g2,g3,g4,g5⟩:=zLo s g _ _ _ _ _ a (by omega) j
     refine adI A ?_
     rw[t];refine adI (zDr ⟨0,0⟩ _ _ _ _ _ _ _ _ _ _ rfl (by rw[QJ,RT.fl_length];omega)) (Wb ?_)
     have W:l++u.fl l.length++[nd6 (ofNat 7) [] [] (ofNat 0) (ofNat (l.length+u.size-1)) (Int.negSucc 0)]=l++(RT.not u).fl l.length:=by rw[RT.fl,Ql];rfl
     have V:(l++u.fl l.length).length=l.length+(RT.not u).size-1:=by
      rw[QJ,RT.fl_length];show _=l.length+(u.size+1)-1
      omega
     show zAm (.int .i64 (ofNat (l++u.fl l.length).length)) s (ofNat b) _ (ofNat p) ⟨0,0⟩ (l++u.fl l.length++[nd6 (ofNat 7) [] [] (ofNat 0) (ofNat (l.length+u.size-1)) (Int.negSucc 0)])=_
     rw[W,V]
    .rw[j];refine adI A ?_
     exact adI (zCJ ⟨e,f⟩ _ p D _ _ _ _ _ _ _ z) (Wb (.inl ⟨z,_,_,_,_,_,r,rfl⟩))
    .rw[j];refine adI A ?_
     rw[t];refine adI (zDr ⟨0,0⟩ _ _ _ _ _ _ _ _ _ _ rfl (by omega)) (Wb (.inr ⟨rfl,_,b,p,_,rfl,H,I,?_,rfl⟩))
     rw[QJ];show D.length+1+n<=_
     omega
  rw[zAt]at w⊢;rw[if_neg (npf1 hs w)];refine zAV hs ⟨0,0⟩ [40] (sk s i) hk _ (λh a=>Wt rfl (?_)) λq=>Wf rfl<|?_
  .rw[zAt]at h a⊢;have h:=pfx1.1 h;have a:sk s i+1<=s.length:=a;rw[if_pos h];refine adB (zSa ⟨0,0⟩ _ _ l _ _ d1 d0) (Wf rfl<|?_)
   rw[deep];obtain⟨v,A,Q⟩:=S d l (sk s i+1) n (by omega) ⟨a,E,K⟩
   show Wp _ (zBN s l _ n (zKo s (orM s g (sk s i+1) n)))
   rcases Q.cases with⟨b,p,u,j,rfl⟩|⟨e,f,j,z,y,b,F,p,D,r,rfl⟩|⟨y,b,p,D,j,H,I,R,rfl⟩
   .rw[j];obtain⟨g1,g2,g3,g4,g5⟩:=zP2 s g _ _ _ _ _ a E j;have M:=zBw g2;show Wp _ (zBN s l _ n (if s[sk s b]?=some 41 then .ok (sk s b+1,p,u)else .error (5,ofNat (sk s b))))
    refine adI A (Wt rfl (?_))
    rw[t];refine zAV hs ⟨0,0⟩ [41] b g2 _ (λh a=>?_) λh=>?_
    .rw[if_pos (pfx1.1 h)];refine⟨_,zJl (x:=⟨0,0⟩),?_⟩
     rfl
    .rw[if_neg (npf1 hs h)];refine⟨_,zJl (x:=⟨0,0⟩),.inl ⟨fa5 _,?_⟩⟩
     rw[if_pos (show(!false)=true from rfl),FA.qF rfl]
     exact⟨_,_,_,_,_,M,rfl⟩
   .rw[j];refine adI A (Wa (λh=>?_) λ_=>⟨_,zJl (x:=⟨e,f⟩),.inl ⟨z,_,_,_,_,_,r,rfl⟩⟩)
    exfalso
    have h:(FA.mk e f).ok=true:=h;rw[z]at h;cases h
   .rw[j];have U:=zHg H;have C:=zGj (zGY H);refine adI A (Wt rfl (?_))
    refine zAV hs ⟨0,0⟩ [41] b (by omega) _ (λh=>?_) λ_=>⟨_,zJl (x:=⟨0,0⟩),.inl ⟨fa5 _,?_⟩⟩
    .rw[C,zMg H (by decide)]at h;cases h
    .rw[C];rw[if_pos (show(!false)=true from rfl),FA.qF rfl]
     exact⟨_,b,_,_,_,by omega,rfl⟩
  .rw[zAt]at q⊢;rw[if_neg (npf1 hs q)];exact zQa hs h8 ⟨hk,E,K⟩
theorem zZk{s:List Nat}(hs:s.length<=65536)(h8:∀c∈s,c<256):AOr s 32:=zTS (zZj hs (zSe (zZi hs (zZG hs h8 32 (QA _)) (zJk hs))) (zP8 hs))
def RT.rk:RT->Int
 |.leaf k _ _ _=>k
 |.not _=>7
 |.two k _ _=>k
theorem zVj(k:Int):zHv k=some (.int .i64 (if k=9 then 1 else if k=8 then 2 else if k=7 then 3 else 4)):=by
 refine zj ?_
 rw[zM4];refine Wa (λh=>Wb ?_) λh=>Wa (λa=>Wb ?_) λa=>Wa (λb=>Wb ?_) λb=>Wb ?_
 .rw[if_pos (by simpa using h)];rfl
 .rw[if_neg (by simpa using h),if_pos (by simpa using a)];rfl
 .rw[if_neg (by simpa using h),if_neg (by simpa using a),if_pos (by simpa using b)];rfl
 .rw[if_neg (by simpa using h),if_neg (by simpa using a),if_neg (by simpa using b)];rfl
theorem RT.root{es:List AV}{t:RT}{o:Nat}(h:Seg es t o):∃a b n l r,es[o+t.size-1]?=some (nd6 t.rk a b n l r):=by
 cases t with
 |leaf k a b n=>exact⟨_,_,_,_,_,h.leaf⟩
 |not t=>exact⟨_,_,_,_,_,h.not.2⟩
 |two k t u=>
  refine⟨[],[],ofNat 0,ofNat (o+t.size-1),ofNat (o+t.size+u.size-1),?_⟩
  rw[show o+(RT.two k t u).size-1=o+t.size+u.size by show o+(t.size+u.size+1)-1=_;omega]
  exact h.two.2.2
theorem zWr{t:RT}(hk:t.kd){m:Int}(hm:m=0\/m=1\/m=2):((if t.rk=9 then(1:Int)else if t.rk=8 then 2 else if t.rk=7 then 3 else 4)<m+1)↔t.tg<m:=by
 cases t with
 |leaf k a b n=>
  have h1:=hk.1;have d:=hk.2;show(if k=9 then(1:Int)else if k=8 then 2 else if k=7 then 3 else 4)<m+1↔(2:Int)<m
  rw[if_neg (by omega),if_neg (by omega),if_neg (by omega)]
  omega
 |not t=>
  show(3:Int)<m+1↔(2:Int)<m
  omega
 |two k t u=>
  show(if k=9 then(1:Int)else if k=8 then 2 else if k=7 then 3 else 4)<m+1↔(if k=9 then(0:Int)else if k=8 then 1 else 2)<m
  rcases hk.1 with rfl|rfl
  .rw[if_neg (by decide),if_pos rfl,if_neg (by decide),if_pos rfl];omega
  .rw[if_pos rfl,if_pos rfl];omega
theorem zGz{es:List AV}{t:RT}{o d:Nat}{m:Int}(hm:m=0\/m=1\/m=2)(hs:Seg es t o)(hk:t.kd)(j:t.told.length<=9000000000000000000)(h:zCZ d es (ofNat (o+t.size-1))=some (.str t.told)):zBX (d+1) (ofNat (o+t.size-1)) (m+1) es=some (.str (parT t.tg m t.told)):=by
 obtain⟨a,b,n,l,r,g⟩:=RT.root hs;have m0:zf=9223372036854775807:=rfl;refine zj ?_
 rw[zMi];refine qk_s h (zB5 g (zCA (zVj _) (Wc (λh=>We ?_ (We ?_ (Wb ?_))) λh=>Wb ?_)))
 .simp only[QZ,Qj];omega
 .simp only[QJ,QZ,Qj];omega
 .unfold parT;rw[if_pos ((zWr hk hm).1 h)]
 .unfold parT;rw[if_neg (λe=>h ((zWr hk hm).2 e))]
theorem zKr{es:List AV}{M:Nat}(hM:M<=5000000):∀(t:RT)(o d:Nat),2*t.size<=d->t.size<=1000->Seg es t o->t.bd M->t.kd->zCZ d es (ofNat (o+t.size-1))=some (.str t.told):=by
 have m0:zf=9223372036854775807:=rfl;intro t
 induction t with
 |leaf k a b n=>
  intro o d E G hs q hk;have g:(RT.leaf k a b n).size=1:=rfl;obtain⟨d,rfl⟩:∃e,d=e+1:=⟨d-1,by omega⟩
  refine zj ?_
  rw[zF7,g,show o+1-1=o by omega]
  refine zB5 hs.leaf ?_
  have p:1<=k:=hk.1;have R:k<=6:=hk.2;obtain⟨w,j,A⟩:=q;have r:=zVf n j A;have T:=zP5 n j A;rw[show(RT.leaf k a b n).told=zC5 k a b n from rfl]
  unfold zC5;refine Wa (λh=>Wb ?_) λh1=>Wa (λh=>We ?_ (We ?_ (Wb ?_))) λJ=>Wa (λh=>We ?_ (We ?_ (Wb ?_))) λS=>Wa (λh=>We ?_ (qk_s r (We ?_ (Wb ?_)))) λK=>Wa (λh=>We ?_ (qk_s r (We ?_ (Wb ?_)))) λL=>Wa (λh=>?_) λh7=>Wa (λh=>?_) λh8=>Wa (λh=>?_) λh9=>Wb ?_
  all_goals simp only[beq_iff_eq,beq_eq_false_iff_ne,ne_eq]at *
  all_goals first
   |(simp only[QJ,QZ,Qj];omega)
   |(subst h;simp;done)
   |(exfalso;omega)
   |(rw[if_neg h1,if_neg J,if_neg S,if_neg K,if_neg L])
 |not t V=>
  intro o d E G hs q hk;have g:(RT.not t).size=t.size+1:=rfl;have:=t.size_pos;obtain⟨d,rfl⟩:∃e,d=e+1+1:=⟨d-2,by omega⟩
  refine zj ?_
  rw[zF7,g,show o+(t.size+1)-1=o+t.size by omega]
  obtain⟨y,z⟩:=hs.not;refine zB5 z ?_
  have q:t.bd M:=q;have hl:=zF3 q;have B:=zCY t.tg 2 t.told;have H:t.size*(M+40)<=1000*5000040:=Nat.mul_le_mul (by omega) (by omega)
  have hk:t.kd:=hk;refine Wf rfl<|Wf rfl<|Wf rfl<|Wf rfl<|Wf rfl<|Wt rfl (?_)
  refine qk_s (zGz (m:=2) (.inr (.inr rfl)) y hk (by omega) (V o d (by omega) (by omega) y q hk)) (We ?_ (Wb rfl))
  simp only[QZ,Qj];omega
 |two k t u D C=>
  intro o d E G hs q hk;have g:(RT.two k t u).size=t.size+u.size+1:=rfl;have:=t.size_pos;have:=u.size_pos;obtain⟨d,rfl⟩:∃e,d=e+1+1:=⟨d-2,by omega⟩
  refine zj ?_
  rw[zF7,g,show o+(t.size+u.size+1)-1=o+t.size+u.size by omega]
  obtain⟨y,z,U⟩:=hs.two;refine zB5 U ?_
  obtain⟨w,j⟩:=q;obtain⟨hk,p,v⟩:=hk;have W:=zF3 w;have B:=zF3 j;have O:t.size*(M+40)<=1000*5000040:=Nat.mul_le_mul (by omega) (by omega)
  have Q:u.size*(M+40)<=1000*5000040:=Nat.mul_le_mul (by omega) (by omega)
  have p1:=zCY t.tg 1 t.told;have p2:=zCY u.tg 2 u.told;have X:=zCY t.tg 0 t.told;have Y:=zCY u.tg 1 u.told;have I:=D o d (by omega) (by omega) y w p
  have F:=C (o+t.size) d (by omega) (by omega) z j v
  rcases hk with rfl|rfl
  .refine Wf rfl<|Wf rfl<|Wf rfl<|Wf rfl<|Wf rfl<|Wf rfl<|Wt rfl (?_)
   refine qk_s (zGz (m:=1) (.inr (.inl rfl)) y p (by omega) I) (We ?_ (qk_s (zGz (m:=2) (.inr (.inr rfl)) z v (by omega) F) (We ?_ (Wb rfl))))
   all_goals simp only[QJ,QZ,Qj]
   all_goals omega
  .refine Wf rfl<|Wf rfl<|Wf rfl<|Wf rfl<|Wf rfl<|Wf rfl<|Wf rfl<|Wt rfl (?_)
   refine qk_s (zGz (m:=0) (.inl rfl) y p (by omega) I) (We ?_ (qk_s (zGz (m:=1) (.inr (.inl rfl)) z v (by omega) F) (We ?_ (Wb rfl))))
   all_goals simp only[QJ,QZ,Qj]
   all_goals omega
theorem zN2{s:List Nat}{x:FA}{i dp n p q:Int}{l:List AV}:zCM s i dp n x.e x.f p q l=some (if x.ok=true then .qg [.agg [.qo 6 l],.agg [.int .i64 (ofNat 0),.int .i64 (ofNat 0)]]else .qg [.agg [.qa],.agg [.int .i64 x.e,.int .i64 x.f]]):=by
 have a:∀b:Bool,(match b with|true=>false|false=>true:Bool)=!b:=λb=>by cases b<;>rfl
 refine zj ?_
 rw[zKx];refine Wa (λh=>Wb ?_) λh=>Wb ?_
 .have h:(!x.ok)=true:=by
   rw[←a]
   revert h
   unfold FA.ok;cases (x.e==0&&x.f==0)<;>intro h<;>first|rfl|exact h
  rw[if_neg (λd=>by rw[d]at h;cases h)]
 .have h:(!x.ok)=false:=by
   rw[←a]
   revert h
   unfold FA.ok;cases (x.e==0&&x.f==0)<;>intro h<;>first|rfl|exact h
  rw[if_pos (by simpa using h)]
theorem zJm{s:List Nat}{x:FA}{i dp n p q:Int}{l:List AV}(hx:x.ok=false):zEb s i dp n x.e x.f p q l=some (.qg [.agg [.qa],.agg [.int .i64 x.e,.int .i64 x.f]]):=by
 refine zj ?_
 rw[zGD];refine Wa (λh=>?_) λ_=>?_
 .have h:x.ok=true:=h;rw[hx]at h;cases h
 .rw[zN2,if_neg (by rw[hx];decide)]
  exact Wb rfl
theorem zE1(s:List Nat)(h8:∀c∈s,c<256):zDg s=some (zV6 (zBE s)):=by
 refine zj ?_
 rw[zM6];unfold zBE;refine Wc (λh=>Wb ?_) λh=>?_
 .rw[if_pos (by rw[QB]at h;omega)];rfl
 have hs:s.length<=1024:=by rw[QB]at h;omega
 have d:s.length<=65536:=by omega
 rw[if_neg (by omega)]
 obtain⟨v,u,D⟩:=zZk d h8 zg [] 0 0 (Qh (zT (by omega))) ⟨QV _,by omega,QA _⟩
 rcases D.cases with⟨i,n,t,j,rfl⟩|⟨e,f,j,g,y,i,B,A,F,z,rfl⟩|⟨y,i,A,F,j,w,C,E,rfl⟩
 .rw[j];obtain⟨g1,g2,g3,g4,g5⟩:=zP2 s 32 _ _ _ _ _ (QV _) (by omega) j
  have hk:=zBw g2;have p:=t.size_pos;refine adI u (adU (zBq d ⟨0,0⟩ _ _ _ i g2) (Wd (λb=>?_) λk=>?_))
  .refine adU (zDb ⟨0,0⟩ _ _ _ 5 _ _) ?_
   rw[FA.qF rfl,zJm (x:=⟨5,ofNat (sk s i)⟩) (fa5 _)];show Wp _ λv=>v=zV6 (if sk s i<s.length then .error (5,ofNat (sk s i))else if 1024<t.told.length then .error (3,Int.negSucc 0)else .ok t)
   rw[if_pos b];exact Wb rfl
  .show Wp _ λv=>v=zV6 (if sk s i<s.length then .error (5,ofNat (sk s i))else if 1024<t.told.length then .error (3,Int.negSucc 0)else .ok t)
   rw[if_neg (by omega),zGD]
   refine Wt rfl (?_)
   have q:([]++t.fl ([]:List AV).length:List AV).length=t.size:=by rw[List.nil_append,RT.fl_length]
   have a:=zKr (es:=[]++t.fl ([]:List AV).length) (M:=56) (by decide) t 0 zg (Qh (zT (by omega))) (by omega) (Seg.whole t) g5.bd.1 g5.kd
   rw[QS]at a;rw[q,zCU p (by omega)]
   refine qk_s a (Wc (λh=>adU (zDb ⟨0,0⟩ _ _ _ 3 _ _) ?_) λh=>?_)
   .rw[if_pos (by rw[QB]at h;omega),FA.qF rfl,zN2 (x:=⟨3,Int.negSucc 0⟩),if_neg (by decide)]
    exact Wb rfl
   .rw[if_neg (by rw[QB]at h;omega),zN2 (x:=⟨0,0⟩),if_pos (show(FA.mk 0 0).ok=true from rfl)]
    exact Wb rfl
 .rw[j];have hk:=zBw z;refine adI u (adU (zBq d ⟨e,f⟩ _ _ _ i z) (Wd (λb=>adU (zDb ⟨e,f⟩ _ _ _ 5 _ _) ?_) λk=>?_))
  .rw[FA.wC g,zJm g];exact Wb rfl
  .rw[zJm (x:=⟨e,f⟩) g];exact Wb rfl
 .rw[j];have b:=zHg w;have r:=zGj (zGY w);refine adI u (adU (zBq d ⟨0,0⟩ _ _ _ i (by omega)) ?_)
  rw[r];refine Wd (λ_=>adU (zDb ⟨0,0⟩ _ _ _ 5 _ _) ?_) λk=>absurd b (by omega)
  rw[FA.qF rfl,zJm (x:=⟨5,ofNat i⟩) (fa5 _)];exact Wb rfl
abbrev sub(es:List AV)(v:AV):Prop:=∃l,v=.qo 9 l/\(∀e∈l,e∈es)/\l.length<=es.length
def within(a b c d x y z u:Int):Prop:=okA a b c d->okA x y z u/\x<=a/\y<=b/\z<=c/\u<=d
noncomputable instance:DecidableEq AV:=λ_ _=>Classical.propDecidable _
def NdL(es:List AV):Prop:=∀e∈es,∃k a b n l r,e=nd6 k a b n l r
theorem zGA:∀(t:RT)(o:Nat),NdL (t.fl o)
 |.leaf k a b n,o=>λe d=>by rw[RT.fl,QY]at d;exact⟨_,_,_,_,_,_,d⟩
 |.not t,o=>λe d=>by
  rw[RT.fl,QH,QY]at d;rcases d with d|d
  .exact zGA t o e d
  .exact⟨_,_,_,_,_,_,d⟩
 |.two k t u,o=>λe d=>by
  rw[RT.fl,QH,QH,QY]at d;rcases d with(d|d)|d
  .exact zGA t o e d
  .exact zGA u _ e d
  .exact⟨_,_,_,_,_,_,d⟩
theorem zWs(k j n n' l g r d:Int)(a e b h:List Nat):(k==j&&(seqb a e&&(seqb b h&&(n==n'&&(l==g&&r==d)))))=decide (nd6 k a b n l r=nd6 j e h n' g d):=by
 rw[zAG,zAG,Bool.eq_iff_iff];simp
theorem zLT{es a:List AV}{i:Nat}(h1:i<es.length)(b:i<a.length):es.drop i=a.drop i↔es[i]=a[i]/\es.drop (i+1)=a.drop (i+1):=by
 rw[Qd h1,Qd b];exact List.cons_eq_cons
theorem zQb(es j:List AV)(h:NdL es)(h':NdL j)(F:es.length<=2000000):zW es j=some (.bool (decide (es=j))):=by
 have loop:es.length=j.length->∀(n i:Nat),i<=es.length->es.length-i<n->z6 n es j (ofNat es.length) (ofNat i)=some (.bool (decide (es.drop i=j.drop i))):=by
  intro D n
  induction n with
  |zero=>intro i _ h;omega
  |succ n E=>
   intro i G H;refine zj ?_
   rw[zD7];refine Wd (λg=>?_) λr=>Wb ?_
   .have d:i<j.length:=D▸g
    obtain⟨k,a,b,m,p,q,z⟩:=h _ (Qi g);obtain⟨v,u,t,y,A,B,w⟩:=h' _ (Qi d);refine zEV ((zDW g).trans (congrArg some z)) (zEV ((zDW d).trans (congrArg some w)) ?_)
    rw[zWs];refine Wa (λhc=>Wb ?_) λhc=>?_
    .have hc:(!decide (nd6 k a b m p q=nd6 v u t y A B))=true:=hc;rw[Qr];rw[zLT g d,z,w];intro C;rw[Qq C.1]at hc;cases hc
    .have hc:(!decide (nd6 k a b m p q=nd6 v u t y A B))=false:=hc;rw[zq (by omega),E (i+1) g (by omega)]
     refine Wb (congrArg AV.bool (decide_eq_decide.2 ?_))
     rw[zLT g d,z,w];have:nd6 k a b m p q=nd6 v u t y A B:=by simpa using hc
     exact⟨λh=>⟨this,h⟩,λh=>h.2⟩
   .rw[Qu r,Qu (by omega)];simp
 refine zj ?_
 rw[zEB];refine Wa (λhc=>Wb ?_) λhc=>?_
 .have hc:(!(ofNat es.length==ofNat j.length))=true:=hc;have hc:es.length≠j.length:=λe=>by rw[e]at hc;simp at hc
  rw[Qr λe=>hc (congrArg _ e)]
 .have hc:(!(ofNat es.length==ofNat j.length))=false:=hc;have hc:es.length=j.length:=by
   have:(ofNat es.length==ofNat j.length)=true:=by simpa using hc
   exact zV4.1 this
  have:=loop hc zg 0 (QV _) (zT (by omega))
  rw[List.drop_zero,List.drop_zero]at this;exact⟨_,this,rfl⟩
def updF(f:Nat->Int)(a:Nat)(v:Int):Nat->Int:=λj=>if j=a then v else f j
theorem zLp{f:Nat->Int}{a:Nat}{v:Int}:updF f a v a=v:=if_pos rfl
theorem zDc{f:Nat->Int}{a j:Nat}{v:Int}(h:j≠a):updF f a v j=f j:=if_neg h
def UsI(us:List AV)(c:Nat->Int)(m:Nat):Prop:=us.length=m/\∀j,j<m->us[j]?=some (.int .i64 (c j))
theorem zPy{us:List AV}{j:Nat}{x:Int}(h:us[j]?=some (.int .i64 x)):ldE us (Int.toNat (ofNat j)) 0 1 false=some (.int .i64 x):=by
 show(match us[j]? with|some e=>Go.Sy.part e.cells 0 1 false|none=>none)=_
 rw[h];rfl
theorem UsI.set{us:List AV}{c:Nat->Int}{m a:Nat}(h:UsI us c m)(g:a<m)(x:Int):UsI (us.set a (.int .i64 x)) (updF c a x) m:=by
 refine⟨by rw[List.length_set];exact h.1,λj b=>?_⟩
 by_cases e:j=a
 .subst e;rw[zLp,List.getElem?_set_self (by rw[h.1];exact b)]
 .rw[zDc e,List.getElem?_set_ne (λd=>e d.symm)]
  exact h.2 j b
section
variable{es us parts:List AV}{n27 n i x m:Nat}{c:Nat->Int}{P:AV->Prop}
theorem zN3(g:UsI us c m){a:Nat}(hx:parts[x]?=some (.int .i64 (ofNat a)))(k:x<5)(p:a<i)(r:i<=m)(hc:c a=0)(t23 t24:Int)(t22:List AV)
  (h:Wp (zBb n27 n es (ofNat i) t22 t23 t24 (ofNat parts.length) (ofNat (x+1)) (us.set a (.int .i64 1)) parts) P):Wp (zBb n27 (n+1) es (ofNat i) t22 t23 t24 (ofNat parts.length) (ofNat x) us parts) P:=by
 have b:x<parts.length:=(QC.1 hx).1;rw[zFC];refine Wd (λ_=>zIC b (zCA (zPy hx) (Wc (λe=>?_) λq=>Wc (λe=>?_) λh1=>?_))) λj=>absurd b (by omega)
 .rw[QB]at e;omega
 .rw[QB,QB]at e;omega
 .have d:a<us.length:=by rw[g.1];omega
  refine zIC d (zCA (zPy (g.2 a (by omega))) (zIC d ?_))
  rw[zq (by omega),hc]
  exact h
theorem zQc(hx:x=parts.length)(a:i<1000)(t22:List AV)(t23:Int)(h:Wp (zBc n27 es t22 t23 (ofNat (i+1)) us) P):Wp (zBb n27 (n+1) es (ofNat i) t22 t23 (ofNat i) (ofNat parts.length) (ofNat x) us parts) P:=by
 rw[zFC];refine Wd (λh=>absurd h (by omega)) λ_=>?_
 rw[zq (by omega)]
 exact h
theorem zSW:zg=1180591620717411303421+1+1+1:=zHo
end
def zae(c a:Nat->Int)(t:RT)(o:Nat):Prop:=(∀j,j<o->a j=c j)/\(∀j,o<=j->j<o+t.size-1->a j=1)/\∀j,o+t.size-1<=j->a j=0
theorem zSX{es:List AV}{P:AV->Prop}(ac:es.length<=64):∀(t:RT)(o n:Nat)(us:List AV)(c:Nat->Int),Seg es t o->t.kd->o+t.size<=es.length->UsI us c es.length->(∀j,o<=j->c j=0) →
  (∀r G,UsI r G es.length->zae c G t o->Wp (zBc n es es (ofNat es.length) (ofNat (o+t.size)) r) P)->Wp (zBc (n+t.size) es es (ofNat es.length) (ofNat o) us) P:=by
 intro t
 induction t with
 |leaf k a b m=>
  intro o n us c hs hk p F hc h;have d:(RT.leaf k a b m).size=1:=rfl;have Y:1<=k:=hk.1;have ab:k<=6:=hk.2;rw[d]at p h⊢;rw[zCb];refine Wd (λ_=>zB5 hs.leaf (Wa (λw=>?_) λ_=>Wa (λw=>?_) λ_=>?_)) λw=>by omega
  .have:k=7:=by simpa using w
   omega
  .have:k=8:=by simpa using w
   omega
  .have e9:(k==9)=false:=by simp;omega
   rw[e9,zFY];refine Wf rfl<|Wf rfl<|Wf rfl<|?_
   rw[zD5,zSW];refine zQc rfl (by omega) _ _ (h us c F ⟨λj _=>rfl,λj h1 D=>?_,λj h1=>hc j ?_⟩)
   .rw[d]at D;omega
   .rw[d]at h1;omega
 |not t ih=>
  intro o n us c hs hk p F hc h;have d:(RT.not t).size=t.size+1:=rfl;have T:=t.size_pos;obtain⟨M,L⟩:=hs.not;rw[d]at p;rw[d,show n+(t.size+1)=(n+1)+t.size by omega]
  refine ih o (n+1) us c M hk (by omega) F hc λr G E I=>?_
  rw[zCb];refine Wd (λ_=>zB5 L (Wt rfl (Wf rfl<|?_))) λw=>by omega
  rw[zD5,zSW];refine zN3 (parts:=[.int .i64 (ofNat (o+t.size-1))]) (x:=0) E (a:=o+t.size-1) rfl (by omega) (by omega) (by omega) (I.2.2 _ (QA _)) _ _ _ ?_
  refine zQc rfl (by omega) _ _ (h _ (updF G (o+t.size-1) 1) (E.set (by omega) 1) ⟨λj H=>?_,λj h1 D=>?_,λj h1=>?_⟩)
  .rw[zDc (by omega)];exact I.1 j H
  .rw[d]at D;by_cases e:j=o+t.size-1
   .rw[e,zLp]
   .rw[zDc e];exact I.2.1 j h1 (by omega)
  .rw[d]at h1;rw[zDc (by omega)];exact I.2.2 j (by omega)
 |two k t u O K=>
  intro o n us c hs hk p F hc h;have d:(RT.two k t u).size=t.size+u.size+1:=rfl;have X:=t.size_pos;have aa:=u.size_pos;obtain⟨M,L,s3⟩:=hs.two;rw[d]at p;rw[show o+(RT.two k t u).size=o+t.size+u.size+1 by omega]at h
  rw[d,show n+(t.size+u.size+1)=(n+1+u.size)+t.size by omega]
  refine O o (n+1+u.size) us c M hk.2.1 (by omega) F hc λQ c1 J q=>?_
  refine K (o+t.size) (n+1) Q c1 L hk.2.2 (by omega) J (λj H=>q.2.2 j (by omega)) λC c2 v g=>?_
  rw[zCb];have two:Wp (zCi n es (ofNat (o+t.size+u.size)) es (ofNat es.length) (ofNat (o+t.size+u.size)) C [.int .i64 (ofNat (o+t.size-1)),.int .i64 (ofNat (o+t.size+u.size-1))]) P:=by
   rw[zD5,zSW];have c21:c2 (o+t.size-1)=0:=by rw[g.1 _ (by omega)];exact q.2.2 _ (QA _)
   have S:c2 (o+t.size+u.size-1)=0:=g.2.2 _ (QA _);refine zN3 (parts:=[.int .i64 (ofNat (o+t.size-1)),.int .i64 (ofNat (o+t.size+u.size-1))]) (x:=0) v (a:=o+t.size-1) rfl (by omega) (by omega) (by omega) c21 _ _ _ ?_
   refine zN3 (parts:=[.int .i64 (ofNat (o+t.size-1)),.int .i64 (ofNat (o+t.size+u.size-1))]) (x:=1) (v.set (by omega) 1) (a:=o+t.size+u.size-1) rfl (by omega) (by omega) (by omega) (by rw[zDc (by omega)];exact S) _ _ _ ?_
   refine zQc rfl (by omega) _ _ (h _ (updF (updF c2 (o+t.size-1) 1) (o+t.size+u.size-1) 1) ((v.set (by omega) 1).set (by omega) 1) ⟨λj H=>?_,λj h1 D=>?_,λj h1=>?_⟩)
   .rw[zDc (by omega),zDc (by omega),g.1 j (by omega)];exact q.1 j H
   .rw[d]at D;by_cases W:j=o+t.size+u.size-1
    .rw[W,zLp]
    .rw[zDc W];by_cases V:j=o+t.size-1
     .rw[V,zLp]
     .rw[zDc V];by_cases e3:j<o+t.size
      .rw[g.1 j e3];exact q.2.1 j h1 (by omega)
      .exact g.2.1 j (by omega) (by omega)
   .rw[d]at h1;rw[zDc (by omega),zDc (by omega)];exact g.2.2 j (by omega)
  have U:∀(A B:List Nat)(x y z:Int),x=ofNat 0->y=ofNat (o+t.size-1)->z=ofNat (o+t.size+u.size-1)->Wp (zDz n es (ofNat (o+t.size+u.size)) es (ofNat es.length) (ofNat (o+t.size+u.size)) true k A B x y z C []) P:=λA B x y z hx hy R=>by
   subst hy;subst R;rw[zFY];exact Wt rfl (two)
  refine Wd (λ_=>zB5 s3 ?_) λw=>by omega
  rcases hk.1 with rfl|rfl
  .exact Wf rfl<|Wt rfl (U _ _ _ _ _ rfl rfl rfl)
  .exact Wf rfl<|Wf rfl<|U _ _ _ _ _ rfl rfl rfl
theorem zTT(t:RT)(hk:t.kd)(r:t.size<=64):zGO (t.fl 0)=some (.bool true):=by
 have d:(t.fl 0).length=t.size:=t.fl_length 0;have g:=t.size_pos;refine zj ?_
 rw[zMh,d];refine Wc (λh=>?_) λ_=>Wc (λh=>?_) λ_=>?_
 .rw[QB]at h;omega
 .rw[QB]at h;omega
 rw[zKd,d];have q:Int.toNat (ofNat t.size)=t.size:=rfl;refine We ⟨Qf _,Int.le_refl _,?_,?_⟩ ?_
 .rw[q];unfold zc;omega
 .rw[q];unfold zc;omega
 rw[q];obtain⟨N,B⟩:∃N,zg=(N+1)+t.size:=⟨zg-t.size-1,by have:=zT (n:=1000) (by omega);omega⟩
 rw[B];have:=zSX (es:=t.fl 0) (P:=λv=>v=.bool true) (by rw[d];exact r) t 0 (N+1) (List.replicate t.size (.int .i64 0)) (λ_=>0) (Seg.whole t) hk (by rw[d];omega) ⟨by rw[d,List.length_replicate],λj u=>?_⟩ (λ_ _=>rfl) λk C a w=>?_
 .rw[d]at this;exact this
 .rw[d]at u;exact QC.2 ⟨by rw[List.length_replicate];exact u,by rw[List.getElem_replicate]⟩
 .rw[d]at a⊢;rw[zCb];refine Wd (λh=>by omega) λ_=>?_
  have p:∀(n i:Nat),i<=t.size->t.size-i<n->Wp (zB3 n (t.fl 0) (ofNat t.size) (ofNat i) k) λv=>v=.bool true:=by
   intro n
   induction n with
   |zero=>intro i _ h;omega
   |succ n y=>
    intro i D E;have e:wrapx .i64 (ofNat t.size-1)=ofNat (t.size-1):=zCU g (by omega)
    rw[zJw,d,a.1,e];refine Wd (λb=>zIC b (zCA (zPy (a.2 i b)) ?_)) λz=>zIC (by omega) (zCA (zPy (a.2 _ (by omega))) (Wb ?_))
    .rw[zq (by omega)]
     refine Wd (λA=>Wa (λh=>?_) λ_=>y (i+1) b (by omega)) λ_=>y (i+1) b (by omega)
     rw[w.2.1 i (QV _) (by omega)]at h
     cases h
    .rw[w.2.2 (t.size-1) (by omega)];rfl
  rw[a.1];exact p zg 0 (QV _) (zT (by omega))
theorem zMQ{s:List Nat}(h8:∀c∈s,c<256){e f:Int}(h:zBE s=.error (e,f)):(e==0&&f==0)=false:=by
 unfold zBE at h;split at h
 .cases h;rfl
 rename_i p;have b:s.length<=65536:=by omega
 obtain⟨v,r,g⟩:=zZk b h8 zg [] 0 0 (Qh (zT (by omega))) ⟨QV _,by omega,QA _⟩
 rcases g.cases with⟨i,n,t,a,_⟩|⟨k,q,a,d,_⟩|⟨y,i,j,u,a,_⟩
 .rw[a]at h;simp only at h;split at h
  .cases h;rfl
  .split at h
   .cases h;rfl
   .cases h
 .rw[a]at h;cases h;exact d
 .rw[a]at h;cases h;rfl
def RT.by(f:Nat->Prop):RT->Prop
 |.leaf k a b n=>(∀c∈a,f c)/\∀c∈b,f c
 |.not t=>t.by f
 |.two k t u=>t.by f/\u.by f
theorem zN4{c:Nat}(h:namB c=true):zFe c:=by
 unfold namB zAP zE at h;simp at h;unfold zFe;omega
theorem zWQ{c:Nat}(h:wrdB c=true):zFe c:=by
 have h:=Qc h;unfold zFe;omega
theorem RT.wf.by{t:RT}(h:t.wf):t.by zFe:=by
 induction t with
 |leaf k a b n=>
  rcases h with⟨_,rfl,rfl,_⟩|⟨h1,_,⟨_,g,_⟩|⟨_,rfl,_⟩|⟨_,rfl,_⟩⟩
  .exact⟨λc h=>(by cases h),λc h=>(by cases h)⟩
  .exact⟨λc hc=>zN4 (h1.2.2 c hc),λc hc=>zWQ (g.2.2 c hc)⟩
  .exact⟨λc hc=>zN4 (h1.2.2 c hc),λc h=>(by cases h)⟩
  .exact⟨λc hc=>zN4 (h1.2.2 c hc),λc h=>(by cases h)⟩
 |not t j=>exact j h
 |two k t u e d=>exact⟨e h.2.1,d h.2.2⟩
theorem zWR(n:Int):okS (decI n):=by
 unfold decI Lib.itoa;split
 .intro c hc;rcases QG.1 hc with rfl|hc
  .decide
  .exact zOG _ c hc
 .exact zOG _
theorem zLq{f:Nat->Prop}(e:∀c,zFe c->f c):∀{t:RT},t.by f->∀c∈t.told,f c
 |.leaf k a b n,h=>λc hc=>by
  have v:∀c∈decI n,f c:=λc hc=>e c (zWR n c hc)
  have d:∀l:List Nat,l.all (λc=>decide (zFe c))=true->∀c∈l,f c:=λl d c hc=>e c (Qc (QD.1 d c hc))
  have app:∀{x y:List Nat},(∀c∈x,f c)->(∀c∈y,f c)->∀c∈x++y,f c:=λr q c hc=>(QH.1 hc).elim (r c) (q c)
  have hc:c∈zC5 k a b n:=hc;unfold zC5 at hc;split at hc
  .exact d _ rfl c hc
  split at hc
  .exact app (app h.1 (d _ rfl)) h.2 c hc
  split at hc
  .exact app (app h.1 (d _ rfl)) h.2 c hc
  split at hc
  .exact app (app h.1 (d _ rfl)) v c hc
  split at hc
  .exact app (app h.1 (d _ rfl)) v c hc
  .exact h.1 c hc
 |.not t,h=>by
  have d:∀l:List Nat,l.all (λc=>decide (zFe c))=true->∀c∈l,f c:=λl d c hc=>e c (Qc (QD.1 d c hc))
  have app:∀{x y:List Nat},(∀c∈x,f c)->(∀c∈y,f c)->∀c∈x++y,f c:=λr q c hc=>(QH.1 hc).elim (r c) (q c)
  have j:∀(g m:Int)(w:List Nat),(∀c∈w,f c)->∀c∈parT g m w,f c:=λg m w p=>by
   unfold parT;split
   .exact app (app (d _ rfl) p) (d _ rfl)
   .exact p
  exact app (d _ rfl) (j _ _ _ (zLq (t:=t) e h))
 |.two k t u,h=>by
  have d:∀l:List Nat,l.all (λc=>decide (zFe c))=true->∀c∈l,f c:=λl d c hc=>e c (Qc (QD.1 d c hc))
  have app:∀{x y:List Nat},(∀c∈x,f c)->(∀c∈y,f c)->∀c∈x++y,f c:=λr q c hc=>(QH.1 hc).elim (r c) (q c)
  have j:∀(g m:Int)(w:List Nat),(∀c∈w,f c)->∀c∈parT g m w,f c:=λg m w p=>by
   unfold parT;split
   .exact app (app (d _ rfl) p) (d _ rfl)
   .exact p
  have h1:=zLq (t:=t) e h.1;have z:=zLq (t:=u) e h.2;rw[RT.told];split
  .exact app (app (j _ _ _ h1) (d _ rfl)) (j _ _ _ z)
  .exact app (app (j _ _ _ h1) (d _ rfl)) (j _ _ _ z)
theorem RT.wf.h8{t:RT}(h:t.wf):∀c∈t.told,c<256:=λc hc=>by
 exact zLq (f:=zFe) (λc h=>h) h.by c hc
noncomputable def zOu(t:RT):Int:=match zBE t.told with
 |.ok u=>if u.fl 0=t.fl 0 then 0 else 2
 |.error _=>2
theorem zJ0(t:RT)(d:t.wf)(j:t.size<=64):zBH (t.fl 0)=some (.int .i64 (zOu t)):=by
 have k:(t.fl 0).length=t.size:=t.fl_length 0;have g:=t.size_pos;refine zj ?_
 rw[zM7];refine qk_b (zTT t d.kd j) (Wf rfl<|?_)
 have a:=zKr (es:=t.fl 0) (M:=56) (by decide) t 0 zg (Qh (zT (by omega))) (by omega) (Seg.whole t) d.bd.1 d.kd
 rw[QS]at a;rw[k,zCU g (by omega)]
 refine qk_s a ?_
 rw[zE1 _ d.h8];unfold zOu;cases hp:zBE t.told with
 |error e=>
  obtain⟨e,f⟩:=e;have p:=zMQ d.h8 hp;show Wp (br (!(e==0&&f==0)) _ _) _
  rw[p];exact Wb rfl
 |ok u=>
  obtain⟨v,r,q⟩:=zIe hp;show Wp (dK true [K.b] (zW (u.fl 0) (t.fl 0)) _) _
  refine qk_b (zQb _ _ (zGA u 0) (zGA t 0) (by rw[RT.fl_length];omega)) (Wa (λh=>Wb ?_) λh=>Wb ?_)
  .show _=AV.int .i64 (if u.fl 0=t.fl 0 then 0 else 2)
   rw[if_neg (by simpa using h)];rfl
  .show _=AV.int .i64 (if u.fl 0=t.fl 0 then 0 else 2)
   rw[if_pos (by simpa using h)];rfl
end Go.Proofs.YtcolommdbibghaaGreatDoor.canon
