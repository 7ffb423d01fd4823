/- THE LAW OF THE LEAN FUNCTIONS, IN PLAIN LEAN: whatever the arguments, it says true. No condition. -/
import Derived.Test.YtfiahaglhiijaaaGreatDoorScoreCallsS2
import Derived.Lib.ItoaNum
import Derived.Test.YtfiahaglhiijaaaGreatDoorRows
set_option linter.unusedVariables false
set_option linter.unusedSimpArgs false
set_option linter.unusedSectionVars false
open Int(ofNat)
theorem Wa:type_of% @Go.Sy.Wp.if:=@Go.Sy.Wp.if
theorem Wb:type_of% @Go.Sy.Wp.mk:=@Go.Sy.Wp.mk
theorem Wc:type_of% @Go.Sy.Wp.ite:=@Go.Sy.Wp.ite
theorem Wd:type_of% @Go.Sy.Wp.lt:=@Go.Sy.Wp.lt
theorem We:type_of% @Go.Sy.Wp.gd:=@Go.Sy.Wp.gd
namespace Go.Proofs.YtfiahaglhiijaaaGreatDoor.score
open Go Go.Sy
abbrev nd6(k:Int)(s t:JV)(n l r:Int):AV:=.agg [.int .i64 k,.str s,.str t,.int .i64 n,.int .i64 l,.int .i64 r]
def zYx:Nat:=4611686018427387904
def TL(es:JE)(L:Nat->Nat)(m:Nat):Prop:=∀j,j<m->∃k s t n l r,es[j]?=some (nd6 k s t n l r)/\(-9223372036854775808<=n/\n<=9223372036854775807)/\s.length+t.length+24<=L j/\L j<=zYx ∧
 (k=7->∃a:Nat,l=ofNat a/\a<j/\L a+3<=L j)/\(k=8\/k=9->∃a b:Nat,l=ofNat a/\r=ofNat b/\a<j/\b<j/\L a+L b+7<=L j)
def upd{α:Type}(f:Nat->α)(a:Nat)(v:α):Nat->α:=λj=>if j=a then v else f j
theorem zHq{α:Type}{f:Nat->α}{a:Nat}{v:α}:upd f a v a=v:=if_pos rfl
theorem zDq{α:Type}{f:Nat->α}{a j:Nat}{v:α}(h:j≠a):upd f a v j=f j:=if_neg h
def rs(L:Nat->Nat)(c:Nat->Int):Nat->Nat
 |0=>0
 |i+1=>rs L c i+if c i=0 then L i else 0
theorem zTo{L L':Nat->Nat}{c c':Nat->Int}:∀{i:Nat},(∀j,j<i->L j=L' j)->(∀j,j<i->(c j=c' j))->rs L c i=rs L' c' i
 |0,_,_=>rfl
 |i+1,h1,a=>by
  rw[rs,rs,zTo (λj h=>h1 j (by omega)) λj h=>a j (by omega),h1 i (by omega),a i (by omega)]
theorem zZn{L:Nat->Nat}{c:Nat->Int}{a:Nat}(d:c a=0){v:Int}(b:v≠0):∀{i:Nat},a<i->rs L (upd c a v) i+L a=rs L c i
 |0,h=>by omega
 |i+1,h=>by
  rw[rs,rs];by_cases e:a=i
  .subst e;rw[zHq,if_neg b,if_pos d,zTo (L':=L) (c':=c) (λ_ _=>rfl) λj f=>zDq (by omega)]
   omega
  .have:=zZn (L:=L) (c:=c) d b (show a<i by omega)
   rw[zDq (by omega)]
   omega
inductive RT where
 |leaf (k:Int) (a b:JV) (n:Int)
 |not (t:RT)
 |two (k:Int) (t u:RT)
namespace RT
def size:RT->Nat
 |.leaf ..=>1
 |.not t=>t.size+1
 |.two _ t u=>t.size+u.size+1
def fl:RT->Nat->List AV
 |.leaf k a b n,_=>[nd6 k a b n (Int.negSucc 0) (Int.negSucc 0)]
 |.not t,o=>t.fl o++[nd6 7 [] [] (ofNat 0) (ofNat (o+t.size-1)) (Int.negSucc 0)]
 |.two k t u,o=>t.fl o++u.fl (o+t.size)++[nd6 k [] [] (ofNat 0) (ofNat (o+t.size-1)) (ofNat (o+t.size+u.size-1))]
theorem size_pos:∀t:RT,0<t.size
 |.leaf ..=>Nat.one_pos
 |.not t=>Qv _
 |.two _ t u=>Qv _
theorem fl_length:∀(t:RT)(o:Nat),(t.fl o).length=t.size
 |.leaf ..,_=>rfl
 |.not t,o=>by rw[fl,QC,fl_length t];rfl
 |.two _ t u,o=>by rw[fl,QC,QC,fl_length t,fl_length u];rfl
end RT
def zAb(c:Nat):Bool:=decide (97<=c/\c<=122)
def zt(c:Nat):Bool:=decide (48<=c/\c<=57)
def namB(c:Nat):Bool:=zAb c||(zt c||c==45)
def wrdB(c:Nat):Bool:=decide (97<=c/\c<=122\/65<=c/\c<=90\/48<=c/\c<=57\/c=45\/c=95\/c=46)
def rn(f:Nat->Bool)(s:List Nat)(i:Nat):Nat:=((s.drop i).takeWhile f).length
def isAt(f:Nat->Bool)(s:List Nat)(i:Nat):Bool:=match s[i]? with
 |some c=>f c
 |none=>false
def sk(s:List Nat)(i:Nat):Nat:=i+rn (·==32) s i
def cutS(s:List Nat)(i j:Nat):List Nat:=List.drop i (List.take j s)
theorem zIG{f:Nat->Bool}{s:List Nat}{i:Nat}(h:isAt f s i=true):rn f s i=rn f s (i+1)+1:=by
 unfold isAt at h;unfold rn;cases hc:s[i]? with
 |none=>rw[hc]at h;cases h
 |some c=>
  rw[hc]at h;obtain⟨a,rfl⟩:=QB.1 hc;have h:f s[i]=true:=h;rw[QO a,List.takeWhile_cons_of_pos h];rfl
theorem zLv{f:Nat->Bool}{s:List Nat}{i:Nat}(h:isAt f s i=false):rn f s i=0:=by
 unfold isAt at h;unfold rn;cases hc:s[i]? with
 |none=>rw[QW (List.getElem?_eq_none_iff.1 hc)];rfl
 |some c=>
  rw[hc]at h;obtain⟨a,rfl⟩:=QB.1 hc;have h:f s[i]=false:=h;rw[QO a,List.takeWhile_cons_of_neg (by rw[h];decide)]
  rfl
theorem zLw{f:Nat->Bool}{s:List Nat}{i:Nat}(h:isAt f s i=true):i<s.length:=by
 unfold isAt at h;cases hc:s[i]? with
 |none=>rw[hc]at h;cases h
 |some c=>exact(QB.1 hc).1
theorem zBx{f:Nat->Bool}{s:List Nat}{i:Nat}(h:i<s.length):isAt f s i=f s[i]:=by
 unfold isAt;rw[QF h]
theorem zC5{f:Nat->Bool}{s:List Nat}{i:Nat}(h:s.length<=i):isAt f s i=false:=by
 unfold isAt;rw[List.getElem?_eq_none h]
theorem zFZ(f:Nat->Bool)(s:List Nat)(i:Nat)(h:i<=s.length):i+rn f s i<=s.length:=by
 have:rn f s i<=(s.drop i).length:=(List.takeWhile_sublist f).length_le;rw[Qp]at this;omega
theorem zNU(f:Nat->Bool)(s:List Nat):∀(m i:Nat),s.length-i<=m->isAt f s (i+rn f s i)=false:=by
 intro m
 induction m with
 |zero=>
  intro i h;exact zC5 (by omega)
 |succ m a=>
  intro i h;by_cases hc:isAt f s i=true
  .have:=zLw hc;rw[zIG hc];have:=a (i+1) (by omega)
   rwa [show i+1+rn f s (i+1)=i+(rn f s (i+1)+1) by omega]at this
  .have hc:isAt f s i=false:=by simpa using hc
   rw[zLv hc];exact hc
theorem zMh{f:Nat->Bool}{s:List Nat}:∀(k i:Nat),k<rn f s i->isAt f s (i+k)=true:=by
 intro k
 induction k with
 |zero=>
  intro i h;cases hc:isAt f s i with
  |true=>rfl
  |false=>rw[zLv hc]at h;omega
 |succ k a=>
  intro i h;cases hc:isAt f s i with
  |true=>
   rw[zIG hc]at h;have:=a (i+1) (by omega)
   rwa [show i+1+k=i+(k+1) by omega]at this
  |false=>rw[zLv hc]at h;omega
theorem zOG(s:List Nat)(i:Nat):i<=sk s i:=Qy _ _
theorem zBi{s:List Nat}{i:Nat}(h:i<=s.length):sk s i<=s.length:=zFZ _ s i h
theorem zfZ(s:List Nat)(i:Nat):isAt (·==32) s (sk s i)=false:=zNU _ s _ i (QA _)
theorem zNe{s:List Nat}{i:Nat}(h:isAt (·==32) s i=false):sk s i=i:=by unfold sk;rw[zLv h];rfl
theorem zCB(s:List Nat)(i:Nat):sk s (sk s i)=sk s i:=zNe (zfZ s i)
abbrev RE(α:Type):=Except (Int×Int) α
def zFO(l:List Nat):Nat:=l.foldl (λx c=>10*x+(c-48)) 0
def zRC(s:List Nat)(i:Nat):RE (Nat×List Nat):=
 if rn wrdB s (sk s i)=0 then .error (5,ofNat (sk s i))else if 32<rn wrdB s (sk s i)then .error (5,ofNat (sk s i+32))else .ok (sk s i+rn wrdB s (sk s i),cutS s (sk s i) (sk s i+rn wrdB s (sk s i)))
def zPo(s:List Nat)(i:Nat):RE (Nat×Int):=
 if isAt wrdB s (sk s i+min 12 (rn zt s (sk s i)))=true then .error (5,ofNat (sk s i+min 12 (rn zt s (sk s i))))else
 if rn zt s (sk s i)=0 then .error (5,ofNat (sk s i))else .ok (sk s i+min 12 (rn zt s (sk s i)),ofNat (zFO (cutS s (sk s i) (sk s i+min 12 (rn zt s (sk s i))))))
def zNf(s:List Nat)(i n:Nat)(k:Int)(a:List Nat):RE (Nat×Nat×RT):=match zRC s i with
 |.error e=>.error e
 |.ok (j,v)=>.ok (j,n+1,.leaf k a v 0)
def zNg(s:List Nat)(i n:Nat)(k:Int)(a:List Nat):RE (Nat×Nat×RT):=match zPo s i with
 |.error e=>.error e
 |.ok (j,x)=>.ok (j,n+1,.leaf k a [] x)
def zF0(s:List Nat)(j n:Nat)(a:List Nat):RE (Nat×Nat×RT):=
 if s[j]?=some 61 then zNf s (j+1) n 2 a else
 if s[j]?=some 33/\s[j+1]?=some 61 then zNf s (j+2) n 3 a else
 if s[j]?=some 62/\s[j+1]?=some 61 then zNg s (j+2) n 4 a else
 if s[j]?=some 60/\s[j+1]?=some 61 then zNg s (j+2) n 5 a else
 if s[j]?=some 33\/s[j]?=some 62\/s[j]?=some 60 then .error (5,ofNat (j+1))else .ok (j,n+1,.leaf 6 a [] 0)
def zEM(s:List Nat)(i n:Nat):RE (Nat×Nat×RT):=
 if isAt zAb s i=false then .error (5,ofNat i)else
 if isAt wrdB s (i+min 24 (rn namB s i))=true then .error (5,ofNat (i+min 24 (rn namB s i)))else
 if 64<n+1 then .error (3,ofNat i)else
 if cutS s i (i+min 24 (rn namB s i))=[97,110,121]then .ok (i+min 24 (rn namB s i),n+1,.leaf 1 [] [] 0)else
 zF0 s (sk s (i+min 24 (rn namB s i))) n (cutS s i (i+min 24 (rn namB s i)))
abbrev Rd:=Nat->Nat->RE (Nat×Nat×RT)
def zJz(next:Rd)(s:List Nat)(a:Nat)(k:Int):Nat->Nat->Nat->RT->RE (Nat×Nat×RT)
 |0,i,n,t=>.ok (i,n,t)
 |m+1,i,n,t=>if s[sk s i]?=some a then
   if 64<n+1 then .error (3,ofNat (sk s i))else match next (sk s i+1) (n+1)with
    |.error e=>.error e
    |.ok (d,b,u)=>zJz next s a k m d b (.two k t u)
  else .ok (sk s i,n,t)
def zF1(next:Rd)(s:List Nat)(d:Nat)(k:Int):Rd:=λi n=>match next i n with
 |.error e=>.error e
 |.ok (b,a,t)=>zJz next s d k 65 b a t
def zPp(s:List Nat)(r:RE (Nat×Nat×RT)):RE (Nat×Nat×RT):=match r with
 |.error e=>.error e
 |.ok (i,n,t)=>if s[sk s i]?=some 41 then .ok (sk s i+1,n,t)else .error (5,ofNat (sk s i))
def notM(r:RE (Nat×Nat×RT)):RE (Nat×Nat×RT):=match r with
 |.error e=>.error e
 |.ok (i,n,t)=>.ok (i,n,.not t)
def zGo(s:List Nat):Nat->Rd
 |0,i,n=>if s[sk s i]?=some 33\/s[sk s i]?=some 40 then .error (3,ofNat (sk s i))else zEM s (sk s i) n
 |g+1,i,n=>if s[sk s i]?=some 33 then
   if 64<n+1 then .error (3,ofNat (sk s i))else notM (zGo s g (sk s i+1) (n+1))
  else if s[sk s i]?=some 40 then zPp s (zF1 (zF1 (zGo s g) s 38 8) s 124 9 (sk s i+1) n)
  else zEM s (sk s i) n
abbrev andM(s:List Nat)(g:Nat):Rd:=zF1 (zGo s g) s 38 8
abbrev orM(s:List Nat)(g:Nat):Rd:=zF1 (andM s g) s 124 9
def RT.tg:RT->Int
 |.two k _ _=>if k=9 then 0 else if k=8 then 1 else 2
 |_=>2
def decI(n:Int):List Nat:=(Lib.itoa n).map UInt8.toNat
def zL4(k:Int)(a b:List Nat)(n:Int):List Nat:=
 if k=1 then[97,110,121]else if k=2 then a++[61]++b else if k=3 then a++[33,61]++b else if k=4 then a++[62,61]++decI n else if k=5 then a++[60,61]++decI n else a
def parT(g m:Int)(s:List Nat):List Nat:=if g<m then[40]++s++[41]else s
def RT.told:RT->List Nat
 |.leaf k a b n=>zL4 k a b n
 |.not t=>[33]++parT t.tg 2 t.told
 |.two k t u=>if k=8 then parT t.tg 1 t.told++[32,38,32]++parT u.tg 2 u.told else parT t.tg 0 t.told++[32,124,32]++parT u.tg 1 u.told
def zGB(s:List Nat):RE RT:=
 if 1024<s.length then .error (3,Int.negSucc 0)else match orM s 32 0 0 with
  |.error e=>.error e
  |.ok (i,n,t)=>if sk s i<s.length then .error (5,ofNat (sk s i))else if 1024<t.told.length then .error (3,Int.negSucc 0)else .ok t
theorem zIu{x y:Nat}:((ofNat x==ofNat y)=true)↔x=y:=by
 rw[beq_iff_eq];exact Int.ofNat_inj
theorem zNh{x y:Nat}:((ofNat x==ofNat y)=false)↔x≠y:=by
 rw[beq_eq_false_iff_ne];exact not_congr Int.ofNat_inj
def zPq(m:Nat)(a:List Nat):Prop:=a.length<=m/\isAt zAb a 0=true/\∀c∈a,namB c=true
def zXN(a:List Nat):Prop:=a≠[]/\a.length<=32/\∀c∈a,wrdB c=true
def zbM(k:Int)(a b:List Nat)(n:Int):Prop:=
 k=1/\a=[]/\b=[]/\n=0\/zPq 24 a/\a≠[97,110,121]/\((k=2\/k=3)/\zXN b/\n=0\/(k=4\/k=5)/\b=[]/\0<=n/\n<=999999999999\/k=6/\b=[]/\n=0)
def RT.wf:RT->Prop
 |.leaf k a b n=>zbM k a b n
 |.not t=>t.wf
 |.two k t u=>(k=8\/k=9)/\t.wf/\u.wf
def zTQ(s:List Nat)(next:Rd):Prop:=∀i n b a t,i<=s.length->n<=64->next i n=.ok (b,a,t)->i<b/\b<=s.length/\a=n+t.size/\a<=64/\t.wf
theorem zEN{s:List Nat}{i c:Nat}(h:s[i]?=some c):i<s.length:=(QB.1 h).1
theorem zEz{s:List Nat}{i k:Nat}(h:i+k<=s.length):(cutS s i (i+k)).length=k:=by
 unfold cutS;rw[Qp,Qh];omega
theorem zVq{s:List Nat}{i k j:Nat}(h:i+k<=s.length)(a:j<k):(cutS s i (i+k))[j]? = s[i+j]?:=by
 unfold cutS;rw[List.getElem?_drop,List.getElem?_take_of_lt (by omega)]
theorem zRD{f:Nat->Bool}{s:List Nat}{i k j:Nat}(h:i+k<=s.length)(a:j<k):isAt f (cutS s i (i+k)) j=isAt f s (i+j):=by
 unfold isAt;rw[zVq h a]
theorem zLx{f:Nat->Bool}{s:List Nat}{i k:Nat}(h:i+k<=s.length)(hk:k<=rn f s i):∀c∈cutS s i (i+k),f c=true:=by
 intro c hc;obtain⟨j,b⟩:=List.getElem?_of_mem hc;have a:j<k:=by have:=zEN b;rwa [zEz h]at this
 have h1:=zMh (f:=f) (s:=s) j i (by omega)
 rw[←zRD h a]at h1;unfold isAt at h1;rw[b]at h1;exact h1
theorem zZo:∀(l:List Nat)(x b:Nat),(∀c∈l,zt c=true)->x<b->l.foldl (λx c=>10*x+(c-48)) x<b*10 ^ l.length
 |[],x,b,_,h=>by simpa using h
 |c::r,x,b,h,a=>by
  have hc:zt c=true:=h c (.head _);unfold zt at hc;have hc:=QP hc;have:=zZo r (10*x+(c-48)) (b*10) (λc hc=>h c (.tail _ hc)) (by omega)
  show r.foldl _ (10*x+(c-48))<_
  rw[QL,Nat.pow_succ]
  calc _<b*10*10 ^ r.length:=this
   _=b*(10 ^ r.length*10):=by rw[Nat.mul_assoc,Nat.mul_comm 10]
theorem zVr{l:List Nat}(h:∀c∈l,zt c=true)(a:l.length<=12):zFO l<=999999999999:=by
 have h1:=zZo l 0 1 h (by omega)
 have b:10 ^ l.length<=10 ^ 12:=Nat.pow_le_pow_right (by omega) a
 have d:(10:Nat) ^ 12=1000000000000:=by decide
 have h1:zFO l<1*10 ^ l.length:=h1;omega
theorem zbN{s:List Nat}{i j:Nat}{v:List Nat}(d:i<=s.length)(h:zRC s i=.ok (j,v)):i<j/\j<=s.length/\zXN v:=by
 unfold zRC at h;split at h
 .cases h
 .rename_i b;split at h
  .cases h
  .rename_i h1;cases h;have a:=zFZ wrdB s (sk s i) (zBi d);have f:=zOG s i;refine⟨by omega,a,λe=>?_,?_,zLx a (QA _)⟩
   .have:=zEz a;rw[e]at this;exact b this.symm
   .rw[zEz a];omega
theorem zap{s:List Nat}{i j:Nat}{x:Int}(b:i<=s.length)(h:zPo s i=.ok (j,x)):i<j/\j<=s.length/\0<=x/\x<=999999999999:=by
 unfold zPo at h;split at h
 .cases h
 .split at h
  .cases h
  .rename_i h1;cases h;have d:=zFZ zt s (sk s i) (zBi b);have f:=zOG s i;have a:sk s i+min 12 (rn zt s (sk s i))<=s.length:=by omega
   have e:=zVr (zLx a (Nat.min_le_right _ _)) (by rw[zEz a];exact Nat.min_le_left _ _)
   refine⟨by omega,a,QU _,?_⟩
   rw[qJ];omega
theorem zXO{s:List Nat}{i n b n':Nat}{k:Int}{a:List Nat}{t:RT}(hk:k=2\/k=3)(d:zPq 24 a/\a≠[97,110,121])(p:i<=s.length)(h:zNf s i n k a=.ok (b,n',t)):i<b/\b<=s.length/\n'=n+t.size/\t.wf:=by
 unfold zNf at h;split at h
 .cases h
 .rename_i j v e;cases h;obtain⟨h1,f,g⟩:=zbN p e;exact⟨h1,f,rfl,.inr ⟨d.1,d.2,.inl ⟨hk,g,rfl⟩⟩⟩
theorem zXP{s:List Nat}{i n b n':Nat}{k:Int}{a:List Nat}{t:RT}(hk:k=4\/k=5)(d:zPq 24 a/\a≠[97,110,121])(p:i<=s.length)(h:zNg s i n k a=.ok (b,n',t)):i<b/\b<=s.length/\n'=n+t.size/\t.wf:=by
 unfold zNg at h;split at h
 .cases h
 .rename_i j v e;cases h;obtain⟨h1,f,g⟩:=zap p e;exact⟨h1,f,rfl,.inr ⟨d.1,d.2,.inr (.inl ⟨hk,rfl,g⟩)⟩⟩
theorem zc1{s:List Nat}{i n e n':Nat}{a:List Nat}{t:RT}(d:zPq 24 a/\a≠[97,110,121])(f:i<=s.length)(h:zF0 s i n a=.ok (e,n',t)):i<=e/\e<=s.length/\n'=n+t.size/\t.wf:=by
 unfold zF0 at h;have lt:∀{a b c:Nat}{p:Prop},a+b<c/\p->a<=c/\p:=λh=>⟨by omega,h.2⟩
 split at h
 .rename_i h1;exact lt (zXO (.inl rfl) d (zEN h1) h)
 split at h
 .rename_i h1;exact lt (zXO (.inr rfl) d (zEN h1.2) h)
 split at h
 .rename_i h1;exact lt (zXP (.inl rfl) d (zEN h1.2) h)
 split at h
 .rename_i h1;exact lt (zXP (.inr rfl) d (zEN h1.2) h)
 split at h
 .cases h
 .cases h;exact⟨QA _,f,rfl,.inr ⟨d.1,d.2,.inr (.inr ⟨rfl,rfl,rfl⟩)⟩⟩
theorem zWl{c:Nat}(h:zAb c=true):namB c=true:=by unfold namB;rw[h];rfl
theorem zXQ(s:List Nat):zTQ s (zEM s):=by
 intro i n A q t g y h;unfold zEM at h;split at h
 .cases h
 rename_i h1;have h1:isAt zAb s i=true:=by simpa using h1
 have d:=zLw h1;split at h
 .cases h
 split at h
 .cases h
 rename_i r w;have v:1<=rn namB s i:=by
  rw[zIG (f:=namB) (s:=s) (i:=i)]
  .omega
  .unfold isAt at h1⊢;split at h1
   .exact zWl h1
   .cases h1
 have p:=zFZ namB s i g;have a:i+min 24 (rn namB s i)<=s.length:=by omega
 split at h
 .rename_i b;cases h;exact⟨by omega,a,rfl,by omega,.inl ⟨rfl,rfl,rfl,rfl⟩⟩
 .rename_i b;have k:zPq 24 (cutS s i (i+min 24 (rn namB s i))):=by
   refine⟨by rw[zEz a];omega,?_,zLx a (Nat.min_le_right _ _)⟩
   rw[zRD a (by omega)]
   exact h1
  obtain⟨u,j,e,h8⟩:=zc1 ⟨k,b⟩ (zBi a) h;have:=zOG s (i+min 24 (rn namB s i));have z:t.size=1:=by
   cases t with
   |leaf=>rfl
   |_=>
    exfalso
    unfold zF0 zNf zNg at h
    repeat' split at h
    all_goals cases h
  refine⟨by omega,j,e,by omega,h8⟩
theorem zc2{s:List Nat}{next:Rd}{v:Nat}{k:Int}(A:zTQ s next)(hk:k=8\/k=9):∀(m i n:Nat)(t:RT)(b n':Nat)(a:RT),i<=s.length->n<=64->t.wf->zJz next s v k m i n t=.ok (b,n',a)->i<=b/\b<=s.length/\n'+t.size=n+a.size/\n'<=64/\a.wf:=by
 intro m
 induction m with
 |zero=>
  intro i n t b n' a f g d h;cases h;exact⟨QA _,f,rfl,g,d⟩
 |succ m z=>
  intro i n t b n' a f g d h;rw[zJz]at h;split at h
  .rename_i hc;split at h
   .cases h
   .split at h
    .cases h
    .rename_i i1 n1 u w;have hc:=zEN hc;obtain⟨h1,j,B,p,r⟩:=A _ _ _ _ _ (by omega) (by omega) w
     obtain⟨C,q,h8,y,e⟩:=z i1 n1 (.two k t u) b n' a j p ⟨hk,d,r⟩ h;have:=zOG s i;refine⟨by omega,q,?_,y,e⟩
     have:(RT.two k t u).size=t.size+u.size+1:=rfl;omega
  .cases h;exact⟨zOG s i,zBi f,rfl,g,d⟩
theorem zOH{s:List Nat}{next:Rd}{p:Nat}{k:Int}(b:zTQ s next)(hk:k=8\/k=9):zTQ s (zF1 next s p k):=by
 intro i n y d t q v h;unfold zF1 at h;split at h
 .cases h
 .rename_i i1 n1 u r;obtain⟨h1,e,z,f,j⟩:=b _ _ _ _ _ q v r;obtain⟨A,g,h8,w,a⟩:=zc2 b hk 65 i1 n1 u y d t e f j h;exact⟨by omega,g,by omega,w,a⟩
theorem zLy(s:List Nat):∀g,zTQ s (zGo s g):=by
 intro g
 induction g with
 |zero=>
  intro i n v r t f b h;rw[zGo]at h;split at h
  .cases h
  .have:=zOG s i;obtain⟨h1,a⟩:=zXQ s _ _ _ _ _ (zBi f) b h;exact⟨by omega,a⟩
 |succ g q=>
  intro i n v r t f b h;have:=zOG s i;rw[zGo]at h;split at h
  .rename_i hc;have hc:=zEN hc;split at h
   .cases h
   .unfold notM at h;split at h
    .cases h
    .rename_i i1 n1 u j;cases h;obtain⟨h1,a,k,d,e⟩:=q _ _ _ _ _ (by omega) (by omega) j
     have:(RT.not u).size=u.size+1:=rfl;exact⟨by omega,a,by omega,d,e⟩
  split at h
  .rename_i hc;have hc:=zEN hc;unfold zPp at h;split at h
   .cases h
   .rename_i i1 n1 u j;split at h
    .rename_i p;have p:=zEN p;cases h;obtain⟨h1,a,k,d,e⟩:=zOH (zOH q (.inl rfl)) (.inr rfl) _ _ _ _ _ (by omega) b j
     have:=zOG s i1;exact⟨by omega,by omega,k,d,e⟩
    .cases h
  .obtain⟨h1,a⟩:=zXQ s _ _ _ _ _ (zBi f) b h;exact⟨by omega,a⟩
theorem zPr(s:List Nat)(g:Nat):zTQ s (andM s g):=zOH (zLy s g) (.inl rfl)
theorem zRE(s:List Nat)(g:Nat):zTQ s (orM s g):=zOH (zPr s g) (.inr rfl)
theorem zOI{s:List Nat}{t:RT}(h:zGB s=.ok t):t.wf/\t.size<=64/\t.told.length<=1024:=by
 unfold zGB at h;split at h
 .cases h
 split at h
 .cases h
 rename_i i n u b;split at h
 .cases h
 split at h
 .cases h
 cases h;obtain⟨_,_,e,d,a⟩:=zRE s 32 _ _ _ _ _ (QI _) (by omega) b
 exact⟨a,by omega,by omega⟩
theorem zbO:zFe=some (.bool true):=by
 unfold zFe gV;rw[zE3]
 kernel_rfl
theorem zeX{β:Type}{wk:Bool}{P:β->Prop}{f:(List AV)->Option β}{o:Option (AV)}{a:List AV}(h:o=some (.agg [.qg 6 a]))(k:Wp (f a) P):Wp (dK wk yA o f) P:=by
 subst h;exact k
theorem zaN{β:Type}{wk:Bool}{P:β->Prop}{f:(Int)->Option β}{o:Option (AV)}{a:Int}(h:o=some (.int .u8 a))(k:Wp (f a) P):Wp (dK wk [K.i .u8] o f) P:=by
 subst h;exact k
theorem zbP{β:Type}{wk:Bool}{f:(Int)->(Int)->(Int)->(Int)->Option β}(a:Int)(x3:Int)(x4:Int)(x5:Int):dK wk yk (some (.agg [.int .i64 a,.int .i64 x3,.int .i64 x4,.int .i64 x5])) f=f a x3 x4 x5:=rfl
theorem zCC{β:Type}{wk:Bool}{P:β->Prop}{f:(Int)->(Int)->(Int)->(Int)->Option β}{o:Option (AV)}{a:Int}{x3:Int}{x4:Int}{x5:Int}(h:o=some (.agg [.int .i64 a,.int .i64 x3,.int .i64 x4,.int .i64 x5]))(k:Wp (f a x3 x4 x5) P):Wp (dK wk yk o f) P:=by
 subst h;exact k
theorem zhQ{β:Type}{wk:Bool}{f:(Int)->Option β}(a:Int):dK wk [K.i .i64] (some (.int .i64 a)) f=f a:=rfl
theorem qk_i{β:Type}{wk:Bool}{P:β->Prop}{f:(Int)->Option β}{o:Option (AV)}{a:Int}(h:o=some (.int .i64 a))(k:Wp (f a) P):Wp (dK wk [K.i .i64] o f) P:=by
 subst h;exact k
theorem zE1{β:Type}{wk:Bool}{P:β->Prop}{f:(Int)->(List Nat)->(List Nat)->(Int)->(Int)->(Int)->Option β}{o:Option (AV)}{a:Int}{x3:List Nat}{x4:List Nat}{x5:Int}{x6:Int}{x7:Int}(h:o=some (.agg [.int .i64 a,.str x3,.str x4,.int .i64 x5,.int .i64 x6,.int .i64 x7]))(k:Wp (f a x3 x4 x5 x6 x7) P):Wp (dK wk yp o f) P:=by
 subst h;exact k
theorem zVL{β:Type}{wk:Bool}{P:β->Prop}{f:(List Nat)->Option β}{o:Option (AV)}{R:(List Nat)->Prop}(h:Wp o λv=>∃(a:List Nat),v=(.str a)/\R a)(k:∀(a:List Nat),R a->Wp (f a) P):Wp (dK wk [K.s] o f) P:=by
 obtain⟨v,rfl,h⟩:=h;obtain⟨a,rfl,h⟩:=h;exact k a h
theorem zBV{β:Type}{wk:Bool}{P:β->Prop}{f:(List Nat)->Option β}{o:Option (AV)}{a:List Nat}(h:o=some (.str a))(k:Wp (f a) P):Wp (dK wk [K.s] o f) P:=by
 subst h;exact k
theorem zhR{β:Type}{wk:Bool}{P:β->Prop}{f:(Bool)->Option β}{o:Option (AV)}{R:(Bool)->Prop}(h:Wp o λv=>∃(a:Bool),v=(.bool a)/\R a)(k:∀(a:Bool),R a->Wp (f a) P):Wp (dK wk [K.b] o f) P:=by
 obtain⟨v,rfl,h⟩:=h;obtain⟨a,rfl,h⟩:=h;exact k a h
theorem qk_b{β:Type}{wk:Bool}{P:β->Prop}{f:(Bool)->Option β}{o:Option (AV)}{a:Bool}(h:o=some (.bool a))(k:Wp (f a) P):Wp (dK wk [K.b] o f) P:=by
 subst h;exact k
theorem zZp{β:Type}{wk:Bool}{P:β->Prop}{f:(Int)->(AV)->Option β}{o:Option (AV)}{a:Int}{x3:AV}(h:o=some (.qc [.int .i64 a,x3]))(k:Wp (f a x3) P):Wp (dK wk [K.qc 2,K.i .i64,K.av] o f) P:=by
 subst h;exact k
theorem zeY{β:Type}{wk:Bool}{P:β->Prop}{f:(List Nat)->(List Nat)->Option β}{o:Option (AV)}{a:List Nat}{x3:List Nat}(h:o=some (.agg [.str a,.str x3]))(k:Wp (f a x3) P):Wp (dK wk yw o f) P:=by
 subst h;exact k
theorem zSp{β:Type}{wk:Bool}{P:β->Prop}{f:(List Nat)->(Int)->Option β}{o:Option (AV)}{a:List Nat}{x3:Int}(h:o=some (.qc [.str a,.int .i64 x3]))(k:Wp (f a x3) P):Wp (dK wk yE o f) P:=by
 subst h;exact k
theorem zVs{β:Type}{wk:Bool}{P:β->Prop}{f:(List Nat)->(Int)->(Int)->(Int)->(Int)->(Int)->(Int)->(List Nat)->(Bool)->Option β}{o:Option (AV)}{a:List Nat}{x3:Int}{x4:Int}{x5:Int}{x6:Int}{x7:Int}{x8:Int}{x9:List Nat}{x10:Bool}(h:o=some (.agg [.str a,.int .i64 x3,.int .i64 x4,.int .i64 x5,.int .i64 x6,.int .i64 x7,.int .i64 x8,.str x9,.bool x10]))(k:Wp (f a x3 x4 x5 x6 x7 x8 x9 x10) P):Wp (dK wk yj o f) P:=by
 subst h;exact k
theorem zUG{β:Type}{wk:Bool}{P:β->Prop}{f:(List AV)->Option β}{o:Option (AV)}{a:List AV}(h:o=some (.qg 9 a))(k:Wp (f a) P):Wp (dK wk [K.l 9] o f) P:=by
 subst h;exact k
theorem zNV{β:Type}{wk:Bool}{P:β->Prop}{f:(Int)->(Int)->(Int)->(Int)->(Int)->Option β}{o:Option (AV)}{x3:Int}{x4:Int}{x5:Int}{x6:Int}{x7:Int}(h:o=some (.qc [.agg [.int .i64 x3,.int .i64 x4,.int .i64 x5,.int .i64 x6],.int .i64 x7]))(k:Wp (f x3 x4 x5 x6 x7) P):Wp (dK wk yu o f) P:=by
 subst h;exact k
theorem zMW{β:Type}{wk:Bool}{P:β->Prop}{f:(List Nat)->(Int)->(Int)->(Int)->(Int)->(Int)->(Int)->(List Nat)->(Bool)->(Bool)->Option β}{o:Option (AV)}{x3:List Nat}{x4:Int}{x5:Int}{x6:Int}{x7:Int}{x8:Int}{x9:Int}{x10:List Nat}{x11:Bool}{x12:Bool}(h:o=some (.qc [.agg [.str x3,.int .i64 x4,.int .i64 x5,.int .i64 x6,.int .i64 x7,.int .i64 x8,.int .i64 x9,.str x10,.bool x11],.bool x12]))(k:Wp (f x3 x4 x5 x6 x7 x8 x9 x10 x11 x12) P):Wp (dK wk yF o f) P:=by
 subst h;exact k
theorem zXR{β:Type}{wk:Bool}{P:β->Prop}{f:(Int)->(Int)->(Int)->(Int)->(Bool)->Option β}{o:Option (AV)}{x3:Int}{x4:Int}{x5:Int}{x6:Int}{x7:Bool}(h:o=some (.qc [.agg [.int .i64 x3,.int .i64 x4,.int .i64 x5,.int .i64 x6],.bool x7]))(k:Wp (f x3 x4 x5 x6 x7) P):Wp (dK wk yv o f) P:=by
 subst h;exact k
theorem zZq{β:Type}{wk:Bool}{P:β->Prop}{f:(Bool)->(Int)->Option β}{o:Option (AV)}{a:Bool}{x3:Int}(h:o=some (.qc [.bool a,.int .i64 x3]))(k:Wp (f a x3) P):Wp (dK wk [K.qc 2,K.b,K.i .i64] o f) P:=by
 subst h;exact k
theorem zLz{β:Type}{wk:Bool}{P:β->Prop}{f:(Int)->(List Nat)->(Int)->Option β}{o:Option (AV)}{a:Int}{x3:List Nat}{x4:Int}(h:o=some (.qc [.int .i64 a,.str x3,.int .i64 x4]))(k:Wp (f a x3 x4) P):Wp (dK wk yH o f) P:=by
 subst h;exact k
theorem zOJ{β:Type}{wk:Bool}{P:β->Prop}{f:(List Nat)->(List AV)->(Int)->(Int)->(Int)->(Int)->(Bool)->(List AV)->Option β}{o:Option (AV)}{a:List Nat}{x3:List AV}{x4:Int}{x5:Int}{x6:Int}{x7:Int}{x8:Bool}{x9:List AV}(h:o=some (.agg [.str a,.qg 2 x3,.int .i64 x4,.int .i64 x5,.int .i64 x6,.int .i64 x7,.bool x8,.qg 9 x9]))(k:Wp (f a x3 x4 x5 x6 x7 x8 x9) P):Wp (dK wk yi o f) P:=by
 subst h;exact k
theorem zPs{β:Type}{wk:Bool}{P:β->Prop}{f:(Int)->(Int)->Option β}{o:Option (AV)}{a:Int}{x3:Int}(h:o=some (.qc [.int .i64 a,.int .i64 x3]))(k:Wp (f a x3) P):Wp (dK wk yz o f) P:=by
 subst h;exact k
theorem zTp{β:Type}{wk:Bool}{P:β->Prop}{f:(Int)->(Int)->(List Nat)->Option β}{o:Option (AV)}{a:Int}{x3:Int}{x4:List Nat}(h:o=some (.agg [.int .i64 a,.int .i64 x3,.str x4]))(k:Wp (f a x3 x4) P):Wp (dK wk yB o f) P:=by
 subst h;exact k
theorem zPt{β:Type}{wk:Bool}{P:β->Prop}{f:(List Nat)->(Int)->(Int)->(Int)->(Int)->(Int)->(List AV)->(List Nat)->Option β}{o:Option (AV)}{a:List Nat}{x3:Int}{x4:Int}{x5:Int}{x6:Int}{x7:Int}{x8:List AV}{x9:List Nat}(h:o=some (.agg [.str a,.int .i64 x3,.int .i64 x4,.int .i64 x5,.int .i64 x6,.int .i64 x7,.qg 6 x8,.str x9]))(k:Wp (f a x3 x4 x5 x6 x7 x8 x9) P):Wp (dK wk yq o f) P:=by
 subst h;exact k
theorem zgI{β:Type}{wk:Bool}{P:β->Prop}{f:(List AV)->Option β}{o:Option (AV)}{a:List AV}(h:o=some (.qg 8 a))(k:Wp (f a) P):Wp (dK wk [K.l 8] o f) P:=by
 subst h;exact k
theorem zP1{β:Type}{wk:Bool}{P:β->Prop}{f:(Int)->(Int)->(Int)->Option β}{o:Option (AV)}{a:Int}{x3:Int}{x4:Int}(h:o=some (.qc [.int .i64 a,.int .i64 x3,.int .i64 x4]))(k:Wp (f a x3 x4) P):Wp (dK wk yD o f) P:=by
 subst h;exact k
theorem zSq{β:Type}{wk:Bool}{P:β->Prop}{f:(Int)->(Bool)->Option β}{o:Option (AV)}{a:Int}{x3:Bool}(h:o=some (.qc [.int .i64 a,.bool x3]))(k:Wp (f a x3) P):Wp (dK wk [K.qc 2,K.i .i64,K.b] o f) P:=by
 subst h;exact k
theorem zc3{β:Type}{wk:Bool}{P:β->Prop}{f:(List AV)->(Int)->Option β}{o:Option (AV)}{a:List AV}{x3:Int}(h:o=some (.qc [.qg 9 a,.int .i64 x3]))(k:Wp (f a x3) P):Wp (dK wk [K.qc 2,K.l 9,K.i .i64] o f) P:=by
 subst h;exact k
theorem zTq{β:Type}{wk:Bool}{P:β->Prop}{f:(List AV)->(Int)->Option β}{o:Option (AV)}{a:List AV}{x3:Int}(h:o=some (.qc [.qg 1 a,.int .i64 x3]))(k:Wp (f a x3) P):Wp (dK wk yG o f) P:=by
 subst h;exact k
theorem zc4{β:Type}{wk:Bool}{P:β->Prop}{f:(List AV)->Option β}{o:Option (AV×Heap×Vecs)}{a:List AV}(h:o=some (.qc [],[],[(0,.vec 3 a)]))(k:Wp (f a) P):Wp (dD wk [.v (.qc 0),.vec 0 3] o f) P:=by
 subst h;exact k
theorem zG8{β:Type}{wk:Bool}{P:β->Prop}{f:(Int)->(Int)->(Int)->(Int)->Option β}{o:Option (AV×Heap×Vecs)}{a:Int}{x3:Int}{x4:Int}{x5:Int}(h:o=some (AV.sym 0,[],[(0,.vec 1 [.int .i64 a,.int .i64 x3,.int .i64 x4,.int .i64 x5])]))(k:Wp (f a x3 x4 x5) P):Wp (dD wk [.v (.c (AV.sym 0)),.vn 0 1 4,.v (.i .i64),.v (.i .i64),.v (.i .i64),.v (.i .i64)] o f) P:=by
 subst h;exact k
def zJk(c:Nat):Prop:=c<256
instance:DecidablePred zJk:=λc=>by unfold zJk;infer_instance
abbrev okS(s:List Nat):Prop:=∀c∈s,zJk c
theorem zP2{k:Nat}(h:k<10):(UInt8.ofNat (48+k)).toNat=48+k:=by
 rw[UInt8.toNat_ofNat'];omega
theorem zbQ{k:Nat}(h:k<10):zJk (48+k):=by unfold zJk;omega
theorem zOK(n:Nat):okS ((Lib.decDigits n).map UInt8.toNat):=by
 induction n using Nat.strongRecOn with
 |ind n b=>
  rw[Lib.decDigits];by_cases h:n<10
  .rw[dif_pos h];intro c hc;simp only[Qe,List.map_nil,zP2 h,Qa]at hc;subst hc;exact zbQ h
  .rw[dif_neg h,Qq];intro c hc;rcases QK.1 hc with hc|hc
   .exact b (n / 10) (by omega) c hc
   .have a:=Nat.mod_lt n (by decide:0<10)
    simp only[Qe,List.map_nil,zP2 a,Qa]at hc;subst hc;exact zbQ a
theorem zaq(n:Int)(a:-9223372036854775808<=n)(h1:n<=9223372036854775807):∃s,zFq n (ofNat 10)=some (.str s)/\s.length<=21/\okS s:=by
 refine⟨(Lib.itoa n).map UInt8.toNat,?_,?_,?_⟩
 .show(match((ofNat 10==10)&&decide (-9223372036854775808<=n/\n<=9223372036854775807))with|true=>some (AV.str ((Lib.itoa n).map UInt8.toNat))|false=>none)=_
  rw[QM (⟨a,h1⟩:-9223372036854775808<=n/\n<=9223372036854775807)];rfl
 .rw[QG];exact Lib.itoa_length_le n a h1
 .unfold Lib.itoa;split
  .intro c hc;rcases QH.1 hc with rfl|hc
   .decide
   .exact zOK _ c hc
  .exact zOK _
theorem zXS(s:List Nat)(h:s.length<=1000):∃n v,zEc s (ofNat 10) (ofNat 64)=some (.qc [.int .i64 n,v])/\-9223372036854775808<=n/\n<=9223372036854775807:=by
 have hs:∀l,-9223372036854775808<=Lib.intSat 64 l/\Lib.intSat 64 l<=9223372036854775807:=λl=>by unfold Lib.intSat;split<;>decide
 have e:Nat.ble s.length 281474976710656=true:=by rw[Qt];omega
 have b:(Nat.ble s.length 281474976710656&&(ofNat 10==10&&ofNat 64==64))=true:=by rw[e];rfl
 unfold zEc zEL zUv;simp only[b];cases hp:Lib.parseIntB 64 (s.map UInt8.ofNat)with
 |ok v=>
  have a:=Lib.parseIntB_bounds hp;exact⟨_,_,rfl,a.1,Int.le_of_lt_add_one a.2⟩
 |range=>exact⟨_,_,rfl,hs _⟩
 |_=>exact⟨_,_,rfl,by decide,by decide⟩
set_option maxRecDepth 100000 in
abbrev am(a b c d:Int):AV:=.agg [.int .i64 a,.int .i64 b,.int .i64 c,.int .i64 d]
def okA(a b c d:Int):Prop:=(0<=a/\a<=1099511627776)/\(0<=b/\b<=1099511627776)/\(0<=c/\c<=1099511627776)/\(0<=d/\d<=1099511627776)
instance(a b c d:Int):Decidable (okA a b c d):=by unfold okA;infer_instance
theorem Wf{β:Type}{P:β->Prop}{b:Bool}{x y:Option β}(h:b=false)(k:Wp y P):Wp (br b x y) P:=by subst h;exact k
theorem Wt{β:Type}{P:β->Prop}{b:Bool}{x y:Option β}(h:b=true)(k:Wp x P):Wp (br b x y) P:=by subst h;exact k
theorem zf{β:Type}{o:Option β}{x:β}(h:Wp o λv=>v=x):o=some x:=let ⟨_,e,h⟩:=h;h▸e
theorem zIH(a b c d:Int):zCe a b c d=some (.int .i64 (if okA a b c d then 0 else 2)):=by
 refine zf ?_
 rw[zQP];refine zCC (zBT ..) ?_
 repeat' first|refine Wc (λ_=>?_) (λ_=>?_)|refine Wb ?_
 all_goals (first|rw[if_neg (by unfold okA;omega)];rfl|rw[if_pos (by unfold okA;omega)];rfl)
def zFp(a b c d e g c' f:Int):Prop:=a<=e/\b<=g/\c<=c'/\d<=f
instance(a b c d a' b' c' d':Int):Decidable (zFp a b c d a' b' c' d'):=by unfold zFp;infer_instance
def tx(m:Nat)(s:List Nat):Prop:=s.length<=m/\okS s
theorem zAq{a b:List Nat}(h:okS a)(k:okS b):okS (a++b):=λc hc=>(QK.1 hc).elim (h c) (k c)
abbrev bytes(s:List Nat):List AV:=s.map λb=>AV.int .u8 (.ofNat b)
theorem zKE(c:Int):zCP c=some (.bool (decide (48<=c/\c<=57))):=by
 rw[zU3];refine zf (Wc (λh=>Wb ?_) λh=>Wb ?_)
 .congr 1;exact decide_eq_decide.2 (by omega)
 .congr 1;exact(QJ (by omega)).symm
structure FL where
 e:Int
 f:Int
 b:Bool
def FL.fail(x:FL)(e f:Int):FL:=if x.b=true then x else⟨e,f,true⟩
theorem FL.uo(x:FL)(e f:Int):(x.fail e f).b=true:=by unfold FL.fail;split<;>simp_all
theorem FL.qG{x:FL}(h:x.b=true)(e f:Int):x.fail e f=x:=if_pos h
theorem FL.qt{x:FL}(h:x.b=false)(e f:Int):x.fail e f=⟨e,f,true⟩:=if_neg (by rw[h];decide)
abbrev outB(v:AV)(s:List Nat)(i:Int)(x:FL)(n:Int)(l:List AV):AV×Heap×Vecs:=(v,[(0,HO.cells false [.str s,.int .i64 i,AV.sym 0,.int .i64 x.e,.int .i64 x.f,.bool x.b,.int .i64 n])],[(0,VI.vec 6 l)])
section
variable{β:Type}{wk:Bool}{P:β->Prop}{o:Option (AV×Heap×Vecs)}{s:List Nat}{i:Int}{x:FL}{n:Int}{l:List AV}
theorem qdU{f:List Nat->Int->Int->Int->Bool->Int->List AV->Option β}(h:o=some (outB (.qc []) s i x n l))(k:Wp (f s i x.e x.f x.b n l) P):Wp (dD wk [.v (.qc 0),.hc 0 false 7,.v .s,.v (.i .i64),.v (.c (AV.sym 0)),.v (.i .i64),.v (.i .i64),.v .b,.v (.i .i64),.vec 0 6] o f) P:=by
 subst h;exact k
theorem qdI{y:Int}{f:Int->List Nat->Int->Int->Int->Bool->Int->List AV->Option β}(h:o=some (outB (.int .i64 y) s i x n l))(k:Wp (f y s i x.e x.f x.b n l) P):Wp (dD wk [.v (.i .i64),.hc 0 false 7,.v .s,.v (.i .i64),.v (.c (AV.sym 0)),.v (.i .i64),.v (.i .i64),.v .b,.v (.i .i64),.vec 0 6] o f) P:=by
 subst h;exact k
theorem qd8{y:Int}{f:Int->List Nat->Int->Int->Int->Bool->Int->List AV->Option β}(h:o=some (outB (.int .u8 y) s i x n l))(k:Wp (f y s i x.e x.f x.b n l) P):Wp (dD wk [.v (.i .u8),.hc 0 false 7,.v .s,.v (.i .i64),.v (.c (AV.sym 0)),.v (.i .i64),.v (.i .i64),.v .b,.v (.i .i64),.vec 0 6] o f) P:=by
 subst h;exact k
theorem qdS{y:List Nat}{f:List Nat->List Nat->Int->Int->Int->Bool->Int->List AV->Option β}(h:o=some (outB (.str y) s i x n l))(k:Wp (f y s i x.e x.f x.b n l) P):Wp (dD wk [.v .s,.hc 0 false 7,.v .s,.v (.i .i64),.v (.c (AV.sym 0)),.v (.i .i64),.v (.i .i64),.v .b,.v (.i .i64),.vec 0 6] o f) P:=by
 subst h;exact k
end
theorem zNW(c:Nat):zAF (ofNat c)=some (.bool (wrdB c)):=by
 refine zf ?_
 rw[zKO]
 repeat' first|refine Wc (λ_=>?_) (λ_=>?_)|refine Wa (λ_=>?_) (λ_=>?_)|refine Wb ?_
 all_goals simp only[qJ,ge_iff_le,beq_iff_eq,beq_eq_false_iff_ne,ne_eq]at *
 all_goals refine congrArg AV.bool ?_
 all_goals unfold wrdB
 all_goals first
  |exact(QM (by omega)).symm
  |(rw[Bool.eq_iff_iff,decide_eq_true_iff];simp only[beq_iff_eq];omega)
section
variable{s:List Nat}(hs:s.length<=65536)(x:FL)(n:Int)(l:List AV)
include hs
theorem zTr(i:Nat)(j:i<=s.length):zAy s (ofNat i) x.e x.f x.b n l=some (outB (.qc []) s (ofNat (sk s i)) x n l):=by
 have loop:∀(m i:Nat),i<=s.length->s.length-i<m->zA1 m s (ofNat i) x.e x.f x.b n l=some (outB (.qc []) s (ofNat (sk s i)) x n l):=by
  intro m
  induction m with
  |zero=>intro i _ h;omega
  |succ m k=>
   intro i j p;refine zf ?_
   rw[zHM];refine Wd (λa=>Wp.bd (R:=λc=>c=s[i]) ⟨_,zAS a,rfl⟩ λc hc=>Wa (λh=>?_) λh=>?_) λg=>Wb ?_
   .subst hc;have d:isAt (·==32) s i=true:=by rw[zBx a];exact beq_iff_eq.2 ((zIu (y:=32)).1 h)
    rw[zHL,zd (by omega),k (i+1) a (by omega)]
    refine Wb ?_
    unfold sk;rw[zIG d,show i+1+rn (·==32) s (i+1)=i+(rn (·==32) s (i+1)+1) by omega]
   .subst hc;have d:isAt (·==32) s i=false:=by rw[zBx a];exact beq_eq_false_iff_ne.2 ((zNh (y:=32)).1 h)
    refine Wb ?_
    rw[zNe d]
   .rw[zNe (zC5 g)]
 rw[zIS];exact loop ze i j (by have:=zk (n:=65537) (by omega);omega)
def pk(s:List Nat)(i:Nat):Nat:=(s[sk s i]?).getD 0
theorem zNX(i:Nat)(g:i<=s.length):zw s (ofNat i) x.e x.f x.b n l=some (outB (.int .u8 (ofNat (pk s i))) s (ofNat (sk s i)) x n l):=by
 refine zf ?_
 rw[zJp];refine qdU (zTr hs x n l i g) (Wd (λa=>Wp.bd (R:=λc=>c=s[sk s i]) ⟨_,zAS a,rfl⟩ λc hc=>Wb ?_) λd=>Wb ?_)
 .subst hc;unfold pk;rw[QF a];rfl
 .unfold pk;rw[List.getElem?_eq_none d];rfl
omit hs in
theorem zHr(e f:Int)(i:Int):zn e f s i x.e x.f x.b n l=some (outB (.qc []) s i (x.fail e f) n l):=by
 refine zf ?_
 rw[zJq];refine Wa (λh=>Wb ?_) λh=>Wb ?_
 .rw[FL.qt (by simpa using h)]
 .rw[FL.qG (by simpa using h)]
omit hs in
theorem zSr(f:Int)(i:Int):zA f s i x.e x.f x.b n l=some (outB (.qc []) s i (if 64<wrapx .i64 (n+1)then x.fail 3 f else x) (wrapx .i64 (n+1)) l):=by
 refine zf ?_
 rw[zI6];refine Wc (λh=>qdU (zHr x (wrapx .i64 (n+1)) l _ f i) (Wb ?_)) λh=>Wb ?_
 .rw[if_pos h];rfl
 .rw[if_neg h]
omit hs in
theorem zWX(k:Int)(a b:List Nat)(m p q:Int)(i:Int)(g:x.b=false->l.length<=64):zx k a b m p q s i x.e x.f x.b n l=some (outB (.int .i64 (wrapx .i64 (ofNat (if x.b=true then l else l++[nd6 k a b m p q]).length-1))) s i x n (if x.b=true then l else l++[nd6 k a b m p q])):=by
 refine zf ?_
 rw[zJN];refine Wa (λh=>?_) λh=>?_
 .have d:x.b=false:=by simpa using h
  have:=g d;refine We ?_ ?_
  .show(l.length+1)*64<=zg/\l.length+1<=zg
   unfold zg;omega
  .rw[zEt];refine Wb ?_
   rw[if_neg (by rw[d];decide)]
   rfl
 .have d:x.b=true:=by simpa using h
  rw[zEt];refine Wb ?_
  rw[if_pos d]
theorem zdO(i:Nat)(p:i<=s.length):zB4 s (ofNat i) x.e x.f x.b n l=some (outB (.str (cutS s i (i+rn wrdB s i))) s (ofNat (i+rn wrdB s i)) x n l):=by
 have loop:∀(m j:Nat),i<=j->j<=s.length->s.length-j<m->zBF m (ofNat i) s (ofNat j) x.e x.f x.b n l=some (outB (.str (cutS s i (j+rn wrdB s j))) s (ofNat (j+rn wrdB s j)) x n l):=by
  intro m
  induction m with
  |zero=>intro j _ _ h;omega
  |succ m r=>
   intro j h1 q t;refine zf ?_
   have d:isAt wrdB s j=false->Wp (gd (decide (0<=ofNat i/\ofNat i<=ofNat j/\ofNat j<=ofNat s.length)) (some (AV.str (List.drop (Int.toNat (ofNat i)) (List.take (Int.toNat (ofNat j)) s)),[(0,HO.cells false [.str s,.int .i64 (ofNat j),AV.sym 0,.int .i64 x.e,.int .i64 x.f,.bool x.b,.int .i64 n])],[(0,VI.vec 6 l)]))) λv=>v=outB (.str (cutS s i (j+rn wrdB s j))) s (ofNat (j+rn wrdB s j)) x n l:=λh=>by
    refine We ⟨QU _,Qr.2 h1,Qr.2 q⟩ (Wb ?_)
    rw[zLv h];rfl
   rw[zIU];refine Wd (λa=>Wp.bd (R:=λc=>c=s[j]) ⟨_,zAS a,rfl⟩ λc hc=>qk_b (zNW c) (Wa (λh=>?_) λh=>?_)) λg=>d (zC5 g)
   .subst hc;have k:isAt wrdB s j=true:=by rw[zBx a];exact h
    rw[zIT,zd (by omega),r (j+1) (by omega) a (by omega)]
    refine Wb ?_
    rw[zIG k,show j+1+rn wrdB s (j+1)=j+(rn wrdB s (j+1)+1) by omega]
   .subst hc;exact d (by rw[zBx a];exact h)
 rw[zJO];exact loop ze i (QA _) p (by have:=zk (n:=65537) (by omega);omega)
def valF(x:FL)(s:List Nat)(j:Nat):FL:=if 32<rn wrdB s j then(if rn wrdB s j=0 then x.fail 5 (ofNat j)else x).fail 5 (ofNat (j+32))else if rn wrdB s j=0 then x.fail 5 (ofNat j)else x
theorem zeZ(i:Nat)(j:i<=s.length):zAN s (ofNat i) x.e x.f x.b n l=some (outB (.str (cutS s (sk s i) (sk s i+rn wrdB s (sk s i)))) s (ofNat (sk s i+rn wrdB s (sk s i))) (valF x s (sk s i)) n l):=by
 refine zf ?_
 have hk:=zBi j;have g:=zFZ wrdB s (sk s i) hk;rw[zI7];refine qdU (zTr hs x n l i j) (qdS (zdO hs x n l (sk s i) hk) ?_)
 have d:∀y:FL,Wp (zBc (ofNat (sk s i)) (cutS s (sk s i) (sk s i+rn wrdB s (sk s i))) s (ofNat (sk s i+rn wrdB s (sk s i))) y.e y.f y.b n l) λv=>v=outB (.str (cutS s (sk s i) (sk s i+rn wrdB s (sk s i)))) s (ofNat (sk s i+rn wrdB s (sk s i))) (if 32<rn wrdB s (sk s i)then y.fail 5 (ofNat (sk s i+32))else y) n l:=λy=>by
  rw[zH8,zEz g];refine Wc (λh=>?_) λh=>Wb ?_
  .have h:32<rn wrdB s (sk s i):=by rw[qJ]at h;omega
   rw[zm (by rw[qJ];omega) (by rw[qJ];omega)]
   refine qdU (zHr y n l 5 _ _) (Wb ?_)
   rw[if_pos h];rfl
  .rw[if_neg (by rw[qJ]at h;omega)]
 rw[zEz g];refine Wa (λh=>qdU (zHr x n l 5 _ _) ((d _).mono λv a=>?_)) λh=>(d _).mono λv a=>?_
 .have h:rn wrdB s (sk s i)=0:=by simpa[qJ]using h
  rw[a];unfold valF;rw[if_pos h]
 .have h:¬rn wrdB s (sk s i)=0:=by simpa[qJ]using h
  rw[a];unfold valF;rw[if_neg h]
end
theorem zZr{f g:Nat->Bool}(h:∀c,f c=true->g c=true)(s:List Nat):∀(m i:Nat),s.length-i<=m->rn f s i<=rn g s i:=by
 intro m
 induction m with
 |zero=>intro i d;rw[zLv (zC5 (by omega))];omega
 |succ m a=>
  intro i d;by_cases hc:isAt f s i=true
  .have b:isAt g s i=true:=by
    unfold isAt at hc⊢;split at hc
    .exact h _ hc
    .cases hc
   rw[zIG hc,zIG b];have:=a (i+1) (by have:=zLw hc;omega)
   omega
  .rw[zLv (by simpa using hc)];omega
theorem zZs(c:Nat)(h:zt c=true):wrdB c=true:=by
 unfold zt at h;unfold wrdB;have:=QP h;exact QM (by omega)
theorem zVt:∀(l:List Nat)(x:Nat),x<=l.foldl (λx c=>10*x+(c-48)) x
 |[],x=>QA _
 |c::r,x=>by
  have:=zVt r (10*x+(c-48));show x<=r.foldl _ (10*x+(c-48))
  omega
theorem zf0{c:Nat}(h:zt c=true):wrapx .u8 (ofNat c-48)=((c-48:Nat):Int):=by
 have h:=QP h;have:ofNat c-48=ofNat (c-48):=by rw[qJ,qJ];omega
 rw[this];have a:c-48<10:=by omega
 generalize c-48=d at a
 match d,a with
 |0,_|1,_|2,_|3,_|4,_|5,_|6,_|7,_|8,_|9,_=>rfl
theorem zUH(w:List Nat)(j:w.length<=12)(e:∀c∈w,zt c=true):zBZ w=some (.qc [.int .i64 (ofNat (zFO w)),.bool (decide (0<w.length))]):=by
 have v:=zVr e j;have loop:∀(m i x:Nat),i<=w.length->w.length-i<m->(w.drop i).foldl (λx c=>10*x+(c-48)) x=zFO w->zBf m w (ofNat x) (ofNat i)=some (.qc [.int .i64 (ofNat (zFO w)),.bool (decide (0<w.length))]):=by
  intro m
  induction m with
  |zero=>intro i x _ h;omega
  |succ m r=>
   intro i x y z b;refine zf ?_
   rw[zFD];refine Wd (λa=>?_) λd=>?_
   .have hc:=e _ (QR a);have g:=QP hc;rw[QO a]at b;have b:(w.drop (i+1)).foldl (λx c=>10*x+(c-48)) (10*x+(w[i]-48))=zFO w:=b
    have u:=zVt (w.drop (i+1)) (10*x+(w[i]-48));refine Wp.bd (R:=λc=>c=w[i]) ⟨_,zAS a,rfl⟩ λc h=>Wc (λh1=>?_) λ_=>Wp.bd (R:=λc=>c=w[i]) ⟨_,zAS a,rfl⟩ λc2 f=>Wc (λh1=>?_) λ_=>?_
    .subst h;rw[qJ]at h1;omega
    .subst f;rw[qJ]at h1;omega
    .rw[zFC];refine Wc (λ_=>Wp.bd (R:=λc=>c=w[i]) ⟨_,zAS a,rfl⟩ λc3 k=>?_) λh1=>?_
     .subst k;rw[zFB,zd (by omega),zf0 hc]
      generalize w[i]=c at *;have p:wrapx .i64 (ofNat x*10)=((10*x:Nat):Int):=by rw[qJ,zm (by omega) (by omega)];omega
      have q:wrapx .i64 (((c-48:Nat):Int))=((c-48:Nat):Int):=zm (by omega) (by omega)
      have t:wrapx .i64 (((10*x:Nat):Int)+((c-48:Nat):Int))=ofNat (10*x+(c-48)):=by rw[zm (by omega) (by omega),qJ];omega
      rw[p,q,t];exact⟨_,r (i+1) _ a (by omega) b,rfl⟩
     .rw[qJ]at h1;omega
   .rw[QW d]at b;have b:x=zFO w:=b;subst b;refine Wc (λh=>Wb ?_) λh=>Wb ?_
    .rw[qJ]at h;rw[QM (show ofNat w.length<=12 by rw[qJ];omega),QM (show 0<w.length by omega)]
    .rw[qJ]at h;rw[QJ (show ¬0<w.length by omega)]
 rw[zGO];exact loop ze 0 0 (QI _) (zk (by omega)) rfl
def z9(m:Nat)(a:List Nat):Bool:=decide (a.length<=m)&&(isAt zAb a 0&&a.all namB)
theorem zJJ(a:List Nat)(m:Nat)(q:a.length<=2000000):zBy a (ofNat m)=some (.bool (z9 m a)):=by
 have loop:∀(n i:Nat),i<=a.length->a.length-i<n->zCV n a (ofNat i)=some (.bool ((a.drop i).all namB)):=by
  intro n
  induction n with
  |zero=>intro i _ h;omega
  |succ n w=>
   intro i y z;refine zf ?_
   rw[zLb];refine Wd (λf=>Wp.bd (R:=λc=>c=a[i]) ⟨_,zAS f,rfl⟩ λc hc=>?_) λk=>Wb ?_
   .subst hc;have go:∀b:Bool,b=!namB a[i]->Wp (zR n a (ofNat i) b) λv=>v=.bool ((a.drop i).all namB):=λb j=>by
     rw[zLa,QO f,Qb];refine Wa (λh=>Wb ?_) λh=>?_
     .have:namB a[i]=false:=by rw[h]at j;simpa using j.symm
      rw[this];rfl
     .have:namB a[i]=true:=by rw[h]at j;simpa using j.symm
      rw[zK9,zd (by omega),w (i+1) f (by omega),this]
      exact Wb rfl
    generalize a[i]=c at go;have e:(decide (ofNat c>=97),decide (ofNat c<=122))=(decide (97<=c),decide (c<=122)):=by
     simp only[Prod.mk.injEq,decide_eq_decide,qJ];omega
    repeat' first|refine Wc (λ_=>?_) (λ_=>?_)|refine go _ ?_
    all_goals simp only[qJ,ge_iff_le,Bool.not_eq_eq_eq_not,Bool.not_not]at *
    all_goals unfold namB zAb zt
    all_goals rw[Bool.eq_iff_iff]
    all_goals simp
    all_goals omega
   .rw[QW k];rfl
 have g:∀b:Bool,(b=true->z9 m a=false)->(b=false->z9 m a=a.all namB)->zAR a b=some (.bool (z9 m a)):=λb h1 p=>by
  refine zf ?_
  rw[zLd];refine Wa (λh=>Wb (by rw[h1 h])) λh=>?_
  rw[zLc,show ofNat 0=ofNat 0 from rfl,loop ze 0 (QI _) (zk (by omega))]
  refine Wb ?_
  rw[p h];rfl
 refine zf ?_
 rw[zMK];refine Wc (λh=>⟨_,g _ (λ_=>?_) (λh=>by cases h),rfl⟩) λt=>Wc (λh=>⟨_,g _ (λ_=>?_) (λh=>by cases h),rfl⟩) λh1=>?_
 .unfold z9;rw[zC5 (by rw[qJ]at h;omega)];simp
 .unfold z9;rw[QJ (by rw[qJ]at h;simp at h;omega)];simp
 .rw[qJ]at t h1;have q:0<a.length:=by omega
  have u:ixN a 0=some a[0]:=zAS q;have r:decide (a.length<=m)=true:=QM (by simp at h1;omega)
  have d:isAt zAb a 0=zAb a[0]:=zBx q;rw[u];refine Wc (λh=>⟨_,g _ (λ_=>?_) (λh=>by cases h),rfl⟩) λp=>⟨_,g _ (λh=>?_) (λh=>?_),rfl⟩
  .unfold z9;rw[r,d];unfold zAb;rw[QJ (by rw[qJ]at h;omega)];simp
  .have h:=QP h;unfold z9;rw[r,d];unfold zAb;rw[QJ (by rw[qJ]at h;omega)];simp
  .have h:=Qk h;unfold z9;rw[r,d];unfold zAb;rw[QM (by rw[qJ]at h p;omega)];simp
section
variable{s:List Nat}(hs:s.length<=65536)(x:FL)(n:Int)(l:List AV)
include hs
def zDb(s:List Nat)(j:Nat):Nat:=min 12 (rn zt s j)
def zQz(x:FL)(s:List Nat)(j:Nat):FL:=if isAt wrdB s (j+zDb s j)=true then x.fail 5 (ofNat (j+zDb s j))else if rn zt s j=0 then x.fail 5 (ofNat j)else x
def zTR(s:List Nat)(j:Nat):Int:=if isAt wrdB s (j+zDb s j)=true then 0 else ofNat (zFO (cutS s j (j+zDb s j)))
theorem zc5(i:Nat)(O:i<=s.length):zAz s (ofNat i) x.e x.f x.b n l=some (outB (.int .i64 (zTR s (sk s i))) s (ofNat (sk s i+rn wrdB s (sk s i))) (zQz x s (sk s i)) n l):=by
 refine zf ?_
 have hk:=zBi O;rw[zIV];refine qdU (zTr hs x n l i O) (qdS (zdO hs x n l (sk s i) hk) ?_)
 generalize sk s i=j at hk;have z:=zFZ wrdB s j hk;have J:=zZr zZs s _ j (QA _);have E:zDb s j<=rn zt s j:=Nat.min_le_right _ _;have d:isAt wrdB s (j+zDb s j)=decide (zDb s j<rn wrdB s j):=by
  by_cases h:zDb s j<rn wrdB s j
  .rw[QM h];exact zMh _ _ h
  .rw[QJ h,show zDb s j=rn wrdB s j by omega]
   exact zNU wrdB s _ j (QA _)
 have S:∀t,t<rn wrdB s j->(cutS s j (j+rn wrdB s j))[t]? = s[j+t]?:=λt L=>zVq z L
 have r:(cutS s j (j+rn wrdB s j)).length=rn wrdB s j:=zEz z;have K:∀y:FL,zDb s j=rn wrdB s j->Wp (zA2 (cutS s j (j+rn wrdB s j)) s (ofNat (j+rn wrdB s j)) y.e y.f y.b n l) λv=>v=outB (.int .i64 (zTR s j)) s (ofNat (j+rn wrdB s j)) y n l:=λy F=>by
  rw[zHO];have R:∀c∈cutS s j (j+rn wrdB s j),zt c=true:=by rw[←F]at z⊢;exact zLx z E
  refine zSq (zUH _ (by rw[r,←F];exact Nat.min_le_left _ _) R) (Wb ?_)
  unfold zTR;rw[d,if_neg (by rw[QJ (by omega)];decide),F]
 have loop:∀(m t:Nat),t<=zDb s j->rn wrdB s j-t<m->Wp (zAU m (ofNat j) (cutS s j (j+rn wrdB s j)) (ofNat t) s (ofNat (j+rn wrdB s j)) x.e x.f x.b n l) λv=>v=outB (.int .i64 (zTR s j)) s (ofNat (j+rn wrdB s j)) (zQz x s j) n l:=by
  intro m
  induction m with
  |zero=>intro t _ h;omega
  |succ m T=>
   intro t L U;rw[zHy,r];refine Wd (λA=>?_) λQ=>?_
   .have G:ixN (cutS s j (j+rn wrdB s j)) (ofNat t)=s[j+t]?:=(zJ5).trans (S t A);have k:j+t<s.length:=by omega
    have G:ixN (cutS s j (j+rn wrdB s j)) (ofNat t)=some s[j+t]:=by rw[G,QF k]
    have I:∀b:Bool,b=decide (t=zDb s j)->Wp (zAk m (ofNat j) (cutS s j (j+rn wrdB s j)) (ofNat t) b s (ofNat (j+rn wrdB s j)) x.e x.f x.b n l) λv=>v=outB (.int .i64 (zTR s j)) s (ofNat (j+rn wrdB s j)) (zQz x s j) n l:=λb p=>by
     rw[zHN];refine Wa (λh=>?_) λh=>?_
     .have p:t=zDb s j:=by rw[h]at p;exact QP p.symm
      rw[zm (by rw[qJ,qJ];omega) (by rw[qJ,qJ];omega)]
      refine qdU (zHr x n l 5 _ _) (Wb ?_)
      have g:isAt wrdB s (j+zDb s j)=true:=by rw[d,QM (by omega)]
      unfold zTR zQz;rw[if_pos g,if_pos g,p];rfl
     .have p:¬t=zDb s j:=by rw[h]at p;exact Qk p.symm
      rw[zd (by omega)]
      exact T (t+1) (by omega) (by omega)
    have a:t<zDb s j->zt s[j+t]=true:=λh=>by
     have:=zMh (f:=zt) (s:=s) t j (by omega)
     rwa [zBx k]at this
    have w:t=zDb s j->t<12->zt s[j+t]=false:=λh u=>by
     have B:zDb s j=rn zt s j:=by unfold zDb at h⊢;omega
     have:=zNU zt s _ j (QA _);rw[←B,←h,zBx k]at this;exact this
    have M:zDb s j<=12:=Nat.min_le_left _ _;rw[G];generalize s[j+t]=c at a w;have D:zt c=decide (48<=c/\c<=57):=rfl;refine Wc (λh=>I _ (QM ?_).symm) λh1=>Wc (λh=>I _ (QM ?_).symm) λB=>I _ ?_
    .by_cases C:t=zDb s j
     .exact C
     .have:=QP (a (by omega));rw[qJ]at h;omega
    .by_cases C:t=zDb s j
     .exact C
     .have:=QP (a (by omega));rw[qJ]at h;omega
    .have hc:zt c=true:=by rw[D];rw[qJ]at h1 B;exact QM (by omega)
     refine decide_eq_decide.2 ?_
     rw[qJ];refine⟨λh=>by omega,λh=>?_⟩
     by_cases u:t<12
     .rw[w h u]at hc;cases hc
     .omega
   .have e:zDb s j=rn wrdB s j:=by omega
    have q:isAt wrdB s (j+zDb s j)=false:=by rw[d,QJ (by omega)]
    refine Wa (λh=>?_) λh=>?_
    .have h:rn wrdB s j=0:=by simpa[qJ]using h
     refine qdU (zHr x n l 5 _ _) ((K _ e).mono λv H=>?_)
     rw[H];unfold zQz;rw[if_neg (by rw[q];decide),if_pos (by omega)]
    .have h:¬rn wrdB s j=0:=by simpa[qJ]using h
     refine(K _ e).mono λv H=>?_
     rw[H];unfold zQz;rw[if_neg (by rw[q];decide),if_neg (by unfold zDb at e;omega)]
 exact loop ze 0 (QI _) (by have:=zk (n:=65537) (by omega);omega)
def nmE(s:List Nat)(i:Nat):Nat:=if isAt zAb s i=true then i+min 24 (rn namB s i)else i
def nmF(x:FL)(s:List Nat)(i:Nat):FL:=if isAt zAb s i=false\/isAt wrdB s (nmE s i)=true then x.fail 5 (ofNat (nmE s i))else x
omit hs in
theorem zbR{i:Nat}(a:i<=s.length):i<=nmE s i/\nmE s i<=s.length:=by
 have:=zFZ namB s i a;unfold nmE;split<;>omega
theorem zf1(i:Nat)(H:i<=s.length):zDt s (ofNat i) x.e x.f x.b n l=some (outB (.str (cutS s i (nmE s i))) s (ofNat (nmE s i)) (nmF x s i) n l):=by
 refine zf ?_
 have q:=zbR (s:=s) H;have j:∀t,t<s.length->i<=t->z9 24 (cutS s i (t+1))=decide (t<nmE s i)\/nmE s i<t:=λt r K=>by
  by_cases z:nmE s i<t
  .exact .inr z
  refine .inl ?_
  have C:=zFZ namB s i H;obtain⟨k,rfl⟩:∃k,t=i+k:=⟨t-i,by omega⟩
  have E:(cutS s i (i+(k+1))).length=k+1:=zEz (by omega)
  have J:isAt zAb (cutS s i (i+(k+1))) 0=isAt zAb s i:=zRD (by omega) (by omega)
  unfold z9;rw[show i+k+1=i+(k+1) by omega,E,J]
  cases hlow:isAt zAb s i with
  |false=>
   have:nmE s i=i:=by unfold nmE;rw[hlow];rfl
   rw[QJ (show ¬i+k<nmE s i by omega)];simp
  |true=>
   have L:nmE s i=i+min 24 (rn namB s i):=by unfold nmE;rw[hlow];rfl
   rw[L]at z⊢;by_cases hk:k<min 24 (rn namB s i)
   .have p:(cutS s i (i+(k+1))).all namB=true:=QD.2 (zLx (by omega) (by omega))
    rw[p,QM (show k+1<=24 by omega),QM (show i+k<i+min 24 (rn namB s i) by omega)];rfl
   .rw[QJ (show ¬i+k<i+min 24 (rn namB s i) by omega)]
    by_cases D:k+1<=24
    .have hk:k=rn namB s i:=by omega
     have:=zNU namB s _ i (QA _);rw[←hk]at this;have p:(cutS s i (i+(k+1))).all namB=false:=by
      rw[List.all_eq_false];refine⟨s[i+k],QE (i:=k) ?_,?_⟩
      .rw[zVq (by omega) (by omega),QF r]
      .rw[zBx r]at this;rw[this];decide
     rw[p];simp
    .rw[QJ D];simp
 rw[zJr];have B:∀y:FL,Wp (gd (decide (0<=ofNat i/\ofNat i<=ofNat (nmE s i)/\ofNat (nmE s i)<=ofNat s.length)) (some (AV.str (List.drop (Int.toNat (ofNat i)) (List.take (Int.toNat (ofNat (nmE s i))) s)),[(0,HO.cells false [.str s,.int .i64 (ofNat (nmE s i)),AV.sym 0,.int .i64 y.e,.int .i64 y.f,.bool y.b,.int .i64 n])],[(0,VI.vec 6 l)]))) λv=>v=outB (.str (cutS s i (nmE s i))) s (ofNat (nmE s i)) y n l:=λy=>
  We ⟨QU _,Qr.2 q.1,Qr.2 q.2⟩ (Wb rfl)
 have G:∀b:Bool,b=decide (isAt zAb s i=false\/isAt wrdB s (nmE s i)=true)->nmF x s i=if b=true then x.fail 5 (ofNat (nmE s i))else x:=λb u=>by
  unfold nmF;by_cases h:isAt zAb s i=false\/isAt wrdB s (nmE s i)=true
  .rw[u,QM h,if_pos h];rfl
  .rw[u,QJ h,if_neg h];rfl
 have I:∀b:Bool,b=decide (isAt zAb s i=false\/isAt wrdB s (nmE s i)=true)->Wp (zAs (ofNat i) b s (ofNat (nmE s i)) x.e x.f x.b n l) λv=>v=outB (.str (cutS s i (nmE s i))) s (ofNat (nmE s i)) (nmF x s i) n l:=λb u=>by
  rw[zIm,G b u];refine Wa (λh=>qdU (zHr x n l 5 _ _) ?_) λh=>?_
  .rw[zEg,if_pos h];exact B _
  .rw[zEg,if_neg (by rw[h];decide)];exact B _
 have F:∀b:Bool,b=decide (isAt zAb s i=false\/isAt wrdB s (nmE s i)=true)->Wp (zAt (ofNat i) b s (ofNat (nmE s i)) x.e x.f x.b n l) λv=>v=outB (.str (cutS s i (nmE s i))) s (ofNat (nmE s i)) (nmF x s i) n l:=λb u=>by
  rw[zIn,G b u];refine Wa (λh=>qdU (zHr x n l 5 _ _) ?_) λh=>?_
  .rw[zEh,if_pos h];exact B _
  .rw[zEh,if_neg (by rw[h];decide)];exact B _
 have a:nmE s i=i↔isAt zAb s i=false:=by
  unfold nmE;cases h:isAt zAb s i with
  |false=>simp
  |true=>
   have:rn namB s i=rn namB s (i+1)+1:=zIG (by unfold isAt at h⊢;split at h;exact zWl h;cases h)
   simp;omega
 have loop:∀(m t:Nat),i<=t->t<=nmE s i->s.length-t<m->Wp (zBk m (ofNat i) s (ofNat t) x.e x.f x.b n l) λv=>v=outB (.str (cutS s i (nmE s i))) s (ofNat (nmE s i)) (nmF x s i) n l:=by
  intro m
  induction m with
  |zero=>intro t _ _ h;omega
  |succ m M=>
   intro t h1 O Q;rw[zIo];refine Wd (λd=>?_) λw=>?_
   .have A:(List.drop (Int.toNat (ofNat i)) (List.take (Int.toNat (ofNat (t+1))) s))=cutS s i (t+1):=rfl;rw[zd (by omega),A]
    refine We ⟨QU _,Qr.2 (by omega),Qr.2 d⟩ (qk_b (zJJ _ 24 ?_) (Wa (λh=>?_) λh=>?_))
    .unfold cutS;rw[Qp,Qh];omega
    .rw[zIl,zd (by omega)]
     refine M (t+1) (by omega) ?_ (by omega)
     rcases j t d h1 with g|g
     .rw[h]at g;have:=QP g.symm;omega
     .omega
    .have r:t=nmE s i:=by
      rcases j t d h1 with g|g
      .rw[h]at g;have:=Qk g.symm;omega
      .omega
     subst r;refine Wa (λh=>I _ (QM (.inl (a.1 (zIu.1 h)))).symm) λh=>Wd (λ_=>Wp.bd (R:=λc=>c=s[nmE s i]) ⟨_,zAS d,rfl⟩ λc hc=>qk_b (zNW c) (I _ ?_)) λw=>absurd d (by omega)
     subst hc;have C:isAt zAb s i=true:=by
      have:=zNh.1 h;cases g:isAt zAb s i with
      |true=>rfl
      |false=>exact absurd (a.2 g) this
     rw[zBx d];cases hw:wrdB s[nmE s i]<;>simp[C]
   .have r:t=nmE s i:=by omega
    subst r;refine Wa (λh=>F _ (QM (.inl (a.1 (zIu.1 h)))).symm) λh=>Wd (λd=>absurd d (by omega)) λ_=>F _ ?_
    have C:isAt zAb s i=true:=by
     have:=zNh.1 h;cases g:isAt zAb s i with
     |true=>rfl
     |false=>exact absurd (a.2 g) this
    rw[zC5 w,C];simp
 exact loop ze i (QA _) q.1 (by have:=zk (n:=65537) (by omega);omega)
end
def zTS(s:List Nat)(x:FL)(v:AV×Heap×Vecs):Prop:=∃(y i n:Int) (l:List AV),v=outB (.int .i64 y) s i x n l
def zTT(s:List Nat)(l:List AV)(x:FL):RE (Nat×Nat×RT)->AV×Heap×Vecs->Prop
 |.ok (i,n,t),v=>v=outB (.int .i64 (ofNat (l.length+t.size-1))) s (ofNat i) x (ofNat n) (l++t.fl l.length)
 |.error (e,f),v=>zTS s ⟨e,f,true⟩ v
section
variable{s:List Nat}{x:FL}{l:List AV}
def zIv(s:List Nat)(l:List AV)(x:FL)(r:RE (Nat×Nat×RT))(v:AV×Heap×Vecs):Prop:=(x.b=true->zTS s x v)/\(x.b=false->zTT s l x r v)
theorem zc6(h:x.b=true)(j:Nat):valF x s j=x:=by unfold valF;simp only[FL.qG h,ite_self]
theorem zc7(h:x.b=true)(j:Nat):zQz x s j=x:=by unfold zQz;simp only[FL.qG h,ite_self]
theorem zZt(h:x.b=true)(j:Nat):nmF x s j=x:=by unfold nmF;simp only[FL.qG h,ite_self]
theorem zEb(k:Int)(a b:List Nat)(m p q:Int)(i n:Int)(d:x.b=false->l.length<=64):Wp (zr s i x.e x.f x.b n k a b m p q l) λv=>(x.b=true->zTS s x v)/\(x.b=false->v=outB (.int .i64 (ofNat l.length)) s i x n (l++[nd6 k a b m p q])):=by
 rw[zIp];refine qdI (zWX x n l k a b m p q i d) (Wb ⟨λh=>⟨_,_,_,_,rfl⟩,λh=>?_⟩)
 rw[if_neg (by rw[h];decide),QC]
 have:=d h;have e:wrapx .i64 (ofNat (l.length+[nd6 k a b m p q].length)-1)=ofNat l.length:=zA8 (i:=l.length+1) (by omega) (by omega)
 rw[e]
theorem zIg(l:List AV)(k:Int)(a b:List Nat)(n:Int):l.length+(RT.leaf k a b n).size-1=l.length:=by
 show l.length+1-1=_
 omega
variable(hs:s.length<=65536)
include hs
theorem zZu(j n:Nat)(m:Int)(k:Int)(a:List Nat)(t:j<=s.length)(hm:x.b=false->m=ofNat (n+1))(r:x.b=false->l.length<=64):
  Wp (dD true [.v .s,.hc 0 false 7,.v .s,.v (.i .i64),.v (.c (AV.sym 0)),.v (.i .i64),.v (.i .i64),.v .b,.v (.i .i64),.vec 0 6] (zAN s (ofNat j) x.e x.f x.b m l) λu w n13 n14 n15 b3 n16 q=>zr w n13 n14 n15 b3 n16 k a u (ofNat 0) (Int.negSucc 0) (Int.negSucc 0) q) (zIv s l x (zNf s j n k a)):=by
 refine qdS (zeZ hs x m l j t) ?_
 by_cases d:x.b=true
 .rw[zc6 d];refine(zEb (s:=s) (x:=x) (l:=l) k a _ _ _ _ _ m r).mono λv g=>⟨g.1,λh=>?_⟩
  rw[h]at d;cases d
 .have d:x.b=false:=by simpa using d
  have y:=zFZ wrdB s (sk s j) (zBi t);unfold zNf zRC valF;by_cases p:rn wrdB s (sk s j)=0
  .rw[if_neg (by omega),if_pos p,if_pos p,FL.qt d]
   refine(zEb (x:=⟨5,ofNat (sk s j),true⟩) k a _ _ _ _ _ m (λh=>by cases h)).mono λv g=>⟨λh=>(by rw[h]at d;cases d),λ_=>g.1 rfl⟩
  .by_cases h1:32<rn wrdB s (sk s j)
   .rw[if_pos h1,if_neg p,if_neg p,if_pos h1,FL.qt d];refine(zEb (x:=⟨5,ofNat (sk s j+32),true⟩) k a _ _ _ _ _ m (λh=>by cases h)).mono λv g=>⟨λh=>(by rw[h]at d;cases d),λ_=>g.1 rfl⟩
   .rw[if_neg h1,if_neg p,if_neg p,if_neg h1];refine(zEb (x:=x) k a _ _ _ _ _ m r).mono λv g=>⟨λh=>(by rw[h]at d;cases d),λ_=>?_⟩
    have:=g.2 d;rw[hm d]at this;show v=outB (.int .i64 (ofNat (l.length+(RT.leaf k a _ 0).size-1))) s _ x _ _
    rw[zIg];exact this
theorem zZv(j n:Nat)(m:Int)(k:Int)(a:List Nat)(u:j<=s.length)(hm:x.b=false->m=ofNat (n+1))(t:x.b=false->l.length<=64):
  Wp (dD true [.v (.i .i64),.hc 0 false 7,.v .s,.v (.i .i64),.v (.c (AV.sym 0)),.v (.i .i64),.v (.i .i64),.v .b,.v (.i .i64),.vec 0 6] (zAz s (ofNat j) x.e x.f x.b m l) λn13 w n14 n15 n16 b3 n17 q=>zr w n14 n15 n16 b3 n17 k a [] n13 (Int.negSucc 0) (Int.negSucc 0) q) (zIv s l x (zNg s j n k a)):=by
 refine qdI (zc5 hs x m l j u) ?_
 by_cases d:x.b=true
 .rw[zc7 d];refine(zEb (s:=s) (x:=x) (l:=l) k a _ _ _ _ _ m t).mono λv g=>⟨g.1,λh=>?_⟩
  rw[h]at d;cases d
 .have d:x.b=false:=by simpa using d
  have hk:=zBi u;have r:=zZr zZs s _ (sk s j) (QA _);unfold zNg zPo zQz zTR;rw[show min 12 (rn zt s (sk s j))=zDb s (sk s j)from rfl]
  by_cases h1:isAt wrdB s (sk s j+zDb s (sk s j))=true
  .rw[if_pos h1,if_pos h1,if_pos h1,FL.qt d];refine(zEb (x:=⟨5,ofNat (sk s j+zDb s (sk s j)),true⟩) k a _ _ _ _ _ m (λh=>by cases h)).mono λv g=>⟨λh=>(by rw[h]at d;cases d),λ_=>g.1 rfl⟩
  .rw[if_neg h1,if_neg h1,if_neg h1];by_cases p:rn zt s (sk s j)=0
   .rw[if_pos p,if_pos p,FL.qt d];refine(zEb (x:=⟨5,ofNat (sk s j),true⟩) k a _ _ _ _ _ m (λh=>by cases h)).mono λv g=>⟨λh=>(by rw[h]at d;cases d),λ_=>g.1 rfl⟩
   .rw[if_neg p,if_neg p];have z:rn wrdB s (sk s j)=zDb s (sk s j):=by
     have y:zDb s (sk s j)<=rn zt s (sk s j):=Nat.min_le_right _ _;by_cases h:zDb s (sk s j)<rn wrdB s (sk s j)
     .exact absurd (zMh _ _ h) h1
     .omega
    rw[z];refine(zEb (x:=x) k a _ _ _ _ _ m t).mono λv g=>⟨λh=>(by rw[h]at d;cases d),λ_=>?_⟩
    have:=g.2 d;rw[hm d]at this;show v=outB (.int .i64 (ofNat (l.length+(RT.leaf k a [] _).size-1))) s _ x _ _
    rw[zIg];exact this
omit hs in
theorem zbS(j n:Nat)(m:Int)(b:Bool)(a:List Nat)(p:j<=s.length)(hs:s.length<=65536)(hm:x.b=false->m=ofNat (n+1))(k:x.b=false->l.length<=64):
  Wp (z7 b s (ofNat j) x.e x.f x.b m (ofNat 6) a [] (ofNat 0) (Int.negSucc 0) (Int.negSucc 0) l) (zIv s l x (if b=true then .error (5,ofNat (j+1))else .ok (j,n+1,.leaf 6 a [] 0))):=by
 rw[zIq];refine Wa (λh=>?_) λh=>?_
 .rw[if_pos h,zd (by omega)]
  refine qdU (zHr x m l 5 _ _) ?_
  by_cases d:x.b=true
  .rw[FL.qG d];exact(zEb (s:=s) (x:=x) (l:=l) _ a _ _ _ _ _ m k).mono λv g=>⟨g.1,λh=>by rw[h]at d;cases d⟩
  .have d:x.b=false:=by simpa using d
   rw[FL.qt d];exact(zEb (x:=⟨5,ofNat (j+1),true⟩) _ a _ _ _ _ _ m (λh=>by cases h)).mono λv g=>⟨λh=>(by rw[h]at d;cases d),λ_=>g.1 rfl⟩
 .rw[if_neg (by rw[h];decide)]
  refine(zEb (x:=x) _ a _ _ _ _ _ m k).mono λv g=>⟨g.1,λd=>?_⟩
  have:=g.2 d;rw[hm d]at this;show v=outB (.int .i64 (ofNat (l.length+(RT.leaf 6 a [] 0).size-1))) s _ x _ _
  rw[zIg];exact this
theorem ze0{j p q:Nat}:List.drop j (List.take (j+2) s)=[p,q]↔s[j]?=some p/\s[j+1]?=some q:=by
 constructor
 .intro h;have a:(List.drop j (List.take (j+2) s))[0]? = s[j]?:=by rw[List.getElem?_drop,List.getElem?_take_of_lt (by omega)];rfl
  have h1:(List.drop j (List.take (j+2) s))[1]? = s[j+1]?:=by rw[List.getElem?_drop,List.getElem?_take_of_lt (by omega)]
  rw[←a,←h1,h];exact⟨rfl,rfl⟩
 .intro h;obtain⟨a,b⟩:=QB.1 h.1;obtain⟨h1,d⟩:=QB.1 h.2;rw[List.drop_take,show j+2-j=2 by omega,QO a,QO h1,b,d]
  rfl
def zP3(s:List Nat)(j:Nat):List Nat:=if j+2<=s.length then List.drop j (List.take (j+2) s)else[]
theorem zWm{j p q:Nat}:zP3 s j=[p,q]↔s[j]?=some p/\s[j+1]?=some q:=by
 unfold zP3;split
 .exact ze0 hs
 .rename_i h;refine⟨λh=>(by cases h),λa=>?_⟩
  have:=zEN a.2;omega
omit hs in
theorem zDU{j c:Nat}(h:c≠0):(s[j]?).getD 0=c↔s[j]?=some c:=by
 cases s[j]? with
 |none=>simp;omega
 |some d=>simp
theorem zbT(j n:Nat)(m:Int)(a:List Nat)(B:j<=s.length)(hm:x.b=false->m=ofNat (n+1))(u:x.b=false->l.length<=64):
  Wp (z8 (ofNat ((s[j]?).getD 0)) (zP3 s j) s (ofNat j) x.e x.f x.b m (ofNat 6) a [] (ofNat 0) (Int.negSucc 0) (Int.negSucc 0) l) (zIv s l x (zF0 s j n a)):=by
 have two:∀p q:Nat,(zo (zP3 s j) [p,q]=true->s[j]?=some p/\s[j+1]?=some q)/\(zo (zP3 s j) [p,q]=false->¬(s[j]?=some p/\s[j+1]?=some q)):=λp q=>by
  rw[zY];exact⟨λh=>(zWm hs).1 (QP h),λh t=>Qk h ((zWm hs).2 t)⟩
 have one:∀c:Nat,c≠0->((ofNat ((s[j]?).getD 0)==ofNat c)=true->s[j]?=some c)/\((ofNat ((s[j]?).getD 0)==ofNat c)=false->¬s[j]?=some c):=λc hc=>
  ⟨λh=>(zDU hc).1 (zIu.1 h),λh t=>zNh.1 h ((zDU hc).2 t)⟩
 unfold zF0;rw[zIr];refine Wa (λh=>?_) λh=>?_
 .have h:=(one 61 (by decide)).1 h
  rw[if_pos h,zd (by omega)]
  exact zZu hs (j+1) n m 2 a (zEN h) hm u
 have y:=(one 61 (by decide)).2 h
 rw[if_neg y];have z:wrapx .i64 (ofNat j+2)=ofNat (j+2):=zm (by rw[qJ];omega) (by rw[qJ];omega)
 refine Wa (λh=>?_) λh=>?_
 .have h:=(two 33 61).1 h;rw[if_pos h,z];exact zZu hs (j+2) n m 3 a (zEN h.2) hm u
 rw[if_neg ((two 33 61).2 h)];refine Wa (λh=>?_) λh=>?_
 .have h:=(two 62 61).1 h;rw[if_pos h,z];exact zZv hs (j+2) n m 4 a (zEN h.2) hm u
 rw[if_neg ((two 62 61).2 h)];refine Wa (λh=>?_) λh=>?_
 .have h:=(two 60 61).1 h;rw[if_pos h,z];exact zZv hs (j+2) n m 5 a (zEN h.2) hm u
 rw[if_neg ((two 60 61).2 h)];have d:∀b:Bool,(b=true↔(s[j]?=some 33\/s[j]?=some 62\/s[j]?=some 60))->Wp (z7 b s (ofNat j) x.e x.f x.b m (ofNat 6) a [] (ofNat 0) (Int.negSucc 0) (Int.negSucc 0) l) (zIv s l x (if s[j]?=some 33\/s[j]?=some 62\/s[j]?=some 60 then .error (5,ofNat (j+1))else .ok (j,n+1,.leaf 6 a [] 0))):=λb A=>by
  refine(zbS j n m b a B hs hm u).mono λv w=>?_
  by_cases h:s[j]?=some 33\/s[j]?=some 62\/s[j]?=some 60
  .rw[if_pos h];rw[if_pos (A.2 h)]at w;exact w
  .rw[if_neg h];rw[if_neg (λt=>h (A.1 t))]at w;exact w
 refine Wa (λh=>d true ?_) λg=>Wa (λh=>d true ?_) λk=>d _ ?_
 .simp[(one 33 (by decide)).1 h]
 .simp[(one 62 (by decide)).1 h]
 .have g:=(one 33 (by decide)).2 g
  have k:=(one 62 (by decide)).2 k
  have r:=one 60 (by decide)
  constructor
  .intro h;exact .inr (.inr (r.1 h))
  .intro h;rcases h with h|h|h
   .exact absurd h g
   .exact absurd h k
   .cases hc:(ofNat ((s[j]?).getD 0)==ofNat 60)with
    |true=>rfl
    |false=>exact absurd h (r.2 hc)
theorem ze1(i n:Nat)(m:Int)(F:i<=s.length)(hm:x.b=false->m=ofNat n/\n<=64)(E:x.b=false->l.length<=64):
  Wp (zB0 s (ofNat i) x.e x.f x.b m l) (zIv s l x (zEM s i n)):=by
 rw[zJs];have w:=zbR (s:=s) F;refine qdS (zf1 hs x m l i F) (Wa (λh=>Wb ⟨λd=>?_,λd=>?_⟩) λh=>?_)
 .rw[zZt d];exact⟨_,_,_,_,rfl⟩
 .unfold nmF at h;have hc:isAt zAb s i=false\/isAt wrdB s (nmE s i)=true:=by
   by_cases hc:isAt zAb s i=false\/isAt wrdB s (nmE s i)=true
   .exact hc
   .rw[if_neg hc,d]at h;cases h
  unfold zEM;have A:nmF x s i=⟨5,ofNat (nmE s i),true⟩:=by unfold nmF;rw[if_pos hc,FL.qt d]
  rw[A];cases a:isAt zAb s i with
  |false=>
   rw[if_pos rfl];have:nmE s i=i:=by unfold nmE;rw[a];rfl
   rw[this];exact⟨_,_,_,_,rfl⟩
  |true=>
   have:nmE s i=i+min 24 (rn namB s i):=by unfold nmE;rw[a];rfl
   rw[a]at hc;rw[this]at hc⊢;rw[if_neg (by decide),if_pos (hc.resolve_left (by decide))]
   exact⟨_,_,_,_,rfl⟩
 ·
  have d:x.b=false:=by
   cases hx:x.b with
   |false=>rfl
   |true=>rw[zZt hx,hx]at h;cases h
  have hc:¬(isAt zAb s i=false\/isAt wrdB s (nmE s i)=true):=λhc=>by
   unfold nmF at h;rw[if_pos hc,FL.uo]at h;cases h
  have A:nmF x s i=x:=by unfold nmF;rw[if_neg hc]
  have a:isAt zAb s i=true:=by
   cases t:isAt zAb s i with
   |true=>rfl
   |false=>exact absurd (.inl t) hc
  have D:nmE s i=i+min 24 (rn namB s i):=by unfold nmE;rw[a];rfl
  obtain⟨rfl,J⟩:=hm d;have H:¬isAt wrdB s (i+min 24 (rn namB s i))=true:=λt=>hc (.inr (by rw[D];exact t))
  unfold zEM;rw[A,a,if_neg (by decide),if_neg H,←D]
  refine qdU (zSr x (ofNat n) l _ _) ?_
  rw[zd (by omega)]
  have key:∀y:FL,(y=x/\n+1<=64\/y=⟨3,ofNat i,true⟩/\64<n+1)->Wp (br (zo (cutS s i (nmE s i)) [97,110,121]) (dD true [.v (.i .i64),.hc 0 false 7,.v .s,.v (.i .i64),.v (.c (AV.sym 0)),.v (.i .i64),.v (.i .i64),.v .b,.v (.i .i64),.vec 0 6] (zx (ofNat 1) [] [] (ofNat 0) (Int.negSucc 0) (Int.negSucc 0) s (ofNat (nmE s i)) y.e y.f y.b (ofNat (n+1)) l) λn8 k g n10 n11 z n12 j=>some (AV.int .i64 n8,[(0,HO.cells false [AV.str k,AV.int .i64 g,AV.sym 0,AV.int .i64 n10,AV.int .i64 n11,AV.bool z,AV.int .i64 n12])],[(0,VI.vec 6 j)])) (dD true [.v (.i .u8),.hc 0 false 7,.v .s,.v (.i .i64),.v (.c (AV.sym 0)),.v (.i .i64),.v (.i .i64),.v .b,.v (.i .i64),.vec 0 6] (zw s (ofNat (nmE s i)) y.e y.f y.b (ofNat (n+1)) l) λn8 k g n10 n11 z n12 j=>br (decide (wrapx IntKind.i64 (g+2)<=ofNat (List.length k))) (gd (decide (0<=g/\g<=wrapx IntKind.i64 (g+2)/\wrapx IntKind.i64 (g+2)<=ofNat (List.length k))) (z8 n8 (List.drop (Int.toNat g) (List.take (Int.toNat (wrapx IntKind.i64 (g+2))) k)) k g n10 n11 z n12 (ofNat 6) (cutS s i (nmE s i)) [] (ofNat 0) (Int.negSucc 0) (Int.negSucc 0) j)) (z8 n8 [] k g n10 n11 z n12 (ofNat 6) (cutS s i (nmE s i)) [] (ofNat 0) (Int.negSucc 0) (Int.negSucc 0) j))) (zIv s l x (if 64<n+1 then .error (3,ofNat i)else if cutS s i (nmE s i)=[97,110,121]then .ok (nmE s i,n+1,.leaf 1 [] [] 0)else zF0 s (sk s (nmE s i)) n (cutS s i (nmE s i)))):=λy I=>by
   have u:y.b=false->l.length<=64:=λ_=>E d
   have post:∀{r:RE (Nat×Nat×RT)}{v:AV×Heap×Vecs},zIv s l y r v->zIv s l x (if 64<n+1 then .error (3,ofNat i)else r) v:=λ{r v} p=>by
    refine⟨λh=>(by rw[h]at d;cases d),λ_=>?_⟩
    rcases I with⟨rfl,h⟩|⟨rfl,h⟩
    .rw[if_neg (by omega)];exact p.2 d
    .rw[if_pos h];exact p.1 rfl
   refine Wa (λh=>?_) λh=>?_
   .rw[zY]at h;rw[if_pos (QP h)];refine qdI (zWX y (ofNat (n+1)) l _ [] [] _ _ _ _ u) (Wb (post ⟨λ_=>⟨_,_,_,_,rfl⟩,λB=>?_⟩))
    rw[if_neg (by rw[B];decide),QC]
    have:=E d;show outB (.int .i64 (wrapx .i64 (ofNat (l.length+1)-1))) s _ y _ _=outB (.int .i64 (ofNat (l.length+1-1))) s _ y _ _
    rw[zA8 (by omega) (by omega)]
    rfl
   .rw[zY]at h;rw[if_neg (Qk h)];refine qd8 (zNX hs y (ofNat (n+1)) l (nmE s i) w.2) ?_
    have hk:=zBi w.2;have G:wrapx .i64 (ofNat (sk s (nmE s i))+2)=ofNat (sk s (nmE s i)+2):=zm (by rw[qJ];omega) (by rw[qJ];omega)
    have q:=zbT (s:=s) (x:=y) (l:=l) hs (sk s (nmE s i)) n (ofNat (n+1)) (cutS s i (nmE s i)) hk (λ_=>rfl) u
    unfold pk;rw[G];refine Wc (λh=>We ⟨QU _,Qr.2 (by omega),h⟩ ?_) λh=>?_
    .have h:sk s (nmE s i)+2<=s.length:=Qr.1 h;unfold zP3 at q;rw[if_pos h]at q;exact q.mono λv p=>post p
    .have h:¬sk s (nmE s i)+2<=s.length:=λt=>h (Qr.2 t)
     unfold zP3 at q;rw[if_neg h]at q;exact q.mono λv p=>post p
  by_cases C:64<n+1
  .rw[if_pos (show(64:Int)<ofNat (n+1) by rw[qJ];omega),FL.qt d]
   exact key ⟨3,ofNat i,true⟩ (.inr ⟨rfl,C⟩)
  .rw[if_neg (show ¬(64:Int)<ofNat (n+1) by rw[qJ];omega)]
   exact key x (.inl ⟨rfl,by omega⟩)
end
theorem zXT{s:List Nat}{x:FL}{l:List AV}{i n:Int}{k:Int}{a b:List Nat}{m p q:Int}(g:x.b=false)(d:l.length<=64):zx k a b m p q s i x.e x.f x.b n l=some (outB (.int .i64 (ofNat l.length)) s i x n (l++[nd6 k a b m p q])):=by
 rw[zWX x n l k a b m p q i (λ_=>d),if_neg (by rw[g];decide),QC]
 have e:wrapx .i64 (ofNat (l.length+[nd6 k a b m p q].length)-1)=ofNat l.length:=zA8 (i:=l.length+1) (by omega) (by omega)
 rw[e]
theorem zLA{s:List Nat}{x:FL}{l:List AV}{i n:Int}{k:Int}{a b:List Nat}{m p q:Int}(d:x.b=true):∃v,zx k a b m p q s i x.e x.f x.b n l=some (outB (.int .i64 v) s i x n l):=⟨_,by rw[zWX x n l k a b m p q i (λh=>by rw[h]at d;cases d),if_pos d]⟩
theorem zTs{s:List Nat}{x:FL}{l:List AV}{i f:Int}{n:Nat}(h:n+1<=64):zA f s i x.e x.f x.b (ofNat n) l=some (outB (.qc []) s i x (ofNat (n+1)) l):=by
 rw[zSr,zd (by omega),if_neg (by rw[qJ];omega)]
theorem zP4{s:List Nat}{x:FL}{l:List AV}{i f:Int}{n:Nat}(a:x.b=false)(h:64<n+1)(d:n<=1000):zA f s i x.e x.f x.b (ofNat n) l=some (outB (.qc []) s i ⟨3,f,true⟩ (ofNat (n+1)) l):=by
 rw[zSr,zd (by omega),if_pos (by rw[qJ];omega),FL.qt a]
theorem zbU{s:List Nat}{x:FL}{l:List AV}{i f n:Int}(a:x.b=true):zA f s i x.e x.f x.b n l=some (outB (.qc []) s i x (wrapx .i64 (n+1)) l):=by
 rw[zSr,FL.qG a,ite_self]
abbrev zaO(s:List Nat)(x:FL)(l:List AV)(i n:Nat)(m:Int):Prop:=i<=s.length/\(x.b=false->m=ofNat n/\n<=64/\l.length<=n)
def zdD(s:List Nat)(g:Nat):Prop:=∀(d:Nat)(x:FL)(l:List AV)(i n:Nat)(m:Int),3*g+1<=d->zaO s x l i n m->Wp (zA5 d (ofNat (32-g)) s (ofNat i) x.e x.f x.b m l) (zIv s l x (zGo s g i n))
def zdE(s:List Nat)(g:Nat):Prop:=∀(d:Nat)(x:FL)(l:List AV)(i n:Nat)(m:Int),3*g+2<=d->zaO s x l i n m->Wp (zB5 d (ofNat (32-g)) s (ofNat i) x.e x.f x.b m l) (zIv s l x (andM s g i n))
def POr(s:List Nat)(g:Nat):Prop:=∀(d:Nat)(x:FL)(l:List AV)(i n:Nat)(m:Int),3*g+3<=d->zaO s x l i n m->Wp (zCm d (ofNat (32-g)) s (ofNat i) x.e x.f x.b m l) (zIv s l x (orM s g i n))
theorem zUI(l:List AV)(k:Int)(t u:RT):(l++t.fl l.length)++u.fl (l++t.fl l.length).length++[nd6 k [] [] (ofNat 0) (ofNat (l.length+t.size-1)) (ofNat ((l++t.fl l.length).length+u.size-1))]=l++(RT.two k t u).fl l.length:=by
 rw[QC,RT.fl_length,RT.fl];simp only[Qo]
theorem zSs{s:List Nat}{x:FL}{l:List AV}{i left m:Int}{d N:Nat}{deep:Int}(a:x.b=true):Wp (zAA d (N+1) deep left s i x.e x.f x.b m l) (zTS s x):=by
 rw[zEu];exact Wa (λh=>by rw[a]at h;cases h) λ_=>Wb ⟨_,_,_,_,rfl⟩
theorem zc8{s:List Nat}(hs:s.length<=65536){g:Nat}(h1:zdD s g){d:Nat}(J:3*g+1<=d){x:FL}(E:x.b=false)(l:List AV):∀(N z i n:Nat)(t:RT),n<=64->65<=n+z->z<N->l.length+t.size<=n->i<=s.length →
  Wp (zAA d N (ofNat (32-g)) (ofNat (l.length+t.size-1)) s (ofNat i) x.e x.f x.b (ofNat n) (l++t.fl l.length)) (zTT s l x (zJz (zGo s g) s 38 8 z i n t)):=by
 intro N
 induction N with
 |zero=>intro z i n t _ _ h;omega
 |succ N R=>
  intro z i n t T U V S K;obtain⟨z,rfl⟩:∃k,z=k+1:=⟨z-1,by omega⟩
  obtain⟨N,rfl⟩:∃k,N=k+1:=⟨N-1,by omega⟩
  have hk:=zBi K;rw[zEu,zJz];refine Wa (λ_=>qd8 (zNX hs x (ofNat n) _ i K) (Wa (λh=>?_) λh=>?_)) λh=>by rw[E]at h;cases h
  .have h:s[sk s i]?=some 38:=(zDU (by decide)).1 ((zIu (y:=38)).1 h)
   rw[if_pos h,zIW];have C:=zEN h;by_cases A:64<n+1
   .rw[if_pos A];refine qdU (zP4 E A (by omega)) ?_
    rw[zd (by omega)]
    obtain⟨v,F,j⟩:=h1 d ⟨3,ofNat (sk s i),true⟩ (l++t.fl l.length) (sk s i+1) 0 (ofNat (n+1)) J ⟨C,λh=>by cases h⟩
    obtain⟨y,D,B,I,rfl⟩:=j.1 rfl;refine qdI F ?_
    obtain⟨w,H⟩:=zLA (s:=s) (x:=⟨3,ofNat (sk s i),true⟩) (l:=I) (i:=D) (n:=B) (k:=ofNat 8) (a:=[]) (b:=[]) (m:=ofNat 0) (p:=ofNat (l.length+t.size-1)) (q:=y) rfl;exact qdI H (zSs rfl)
   .rw[if_neg A];refine qdU (zTs (by omega)) ?_
    rw[zd (by omega)]
    have G:(l++t.fl l.length).length<=n+1:=by rw[QC,RT.fl_length];omega
    obtain⟨v,F,j⟩:=h1 d x (l++t.fl l.length) (sk s i+1) (n+1) (ofNat (n+1)) J ⟨C,λ_=>⟨rfl,by omega,G⟩⟩
    have j:=j.2 E;cases hx:zGo s g (sk s i+1) (n+1)with
    |error e=>
     rw[hx]at j;obtain⟨y,D,B,I,rfl⟩:=j;refine qdI F ?_
     obtain⟨w,H⟩:=zLA (s:=s) (x:=⟨e.1,e.2,true⟩) (l:=I) (i:=D) (n:=B) (k:=ofNat 8) (a:=[]) (b:=[]) (m:=ofNat 0) (p:=ofNat (l.length+t.size-1)) (q:=y) rfl;exact qdI H (zSs rfl)
    |ok r=>
     obtain⟨D,B,u⟩:=r;rw[hx]at j;have j:v=_:=j;subst j;obtain⟨g1,g2,g3,g4,g5⟩:=zLy s g _ _ _ _ _ (show sk s i+1<=s.length by omega) (by omega) hx
     have O:(RT.two 8 t u).size=t.size+u.size+1:=rfl;refine qdI F (qdI (zXT E ?_) ?_)
     .rw[QC,RT.fl_length,QC,RT.fl_length];omega
     .have Q:(l++t.fl l.length++u.fl (l++t.fl l.length).length).length=l.length+(RT.two 8 t u).size-1:=by
       rw[QC,RT.fl_length,QC,RT.fl_length];omega
      have M:=zUI l 8 t u;rw[Q];have:=R z D B (.two 8 t u) g4 (by omega) (by omega) (by omega) g2
      rw[←M]at this;exact this
  .have h:¬s[sk s i]?=some 38:=λL=>(zNh (y:=38)).1 h ((zDU (by decide)).2 L)
   rw[if_neg h];exact Wb rfl
theorem zdP{s:List Nat}(hs:s.length<=65536){g:Nat}(h1:zdD s g):zdE s g:=by
 intro d x l i n m B q;obtain⟨d,rfl⟩:∃k,d=k+1:=⟨d-1,by omega⟩
 rw[zJP];obtain⟨v,t,f⟩:=h1 d x l i n m (by omega) q
 rw[show ze=1180591620717411303423+1 from zE3]
 by_cases a:x.b=true
 .obtain⟨y,w,p,A,rfl⟩:=f.1 a;exact qdI t ((zSs a).mono λv h=>⟨λ_=>h,λj=>by rw[j]at a;cases a⟩)
 .have a:x.b=false:=by simpa using a
  have f:=f.2 a;obtain⟨D,z,C⟩:=q.2 a;show Wp _ (zIv s l x (zF1 (zGo s g) s 38 8 i n))
  unfold zF1;cases hx:zGo s g i n with
  |error e=>
   rw[hx]at f;obtain⟨y,w,p,A,rfl⟩:=f;exact qdI t ((zSs (x:=⟨e.1,e.2,true⟩) rfl).mono λv h=>⟨λj=>(by rw[j]at a;cases a),λ_=>h⟩)
  |ok r=>
   obtain⟨w,p,u⟩:=r;rw[hx]at f;have f:v=_:=f;subst f;obtain⟨g1,g2,g3,g4,g5⟩:=zLy s g _ _ _ _ _ q.1 z hx;refine qdI t ((zc8 hs h1 (by omega) a l _ 65 w p u g4 (by omega) (by omega) (by omega) g2).mono λv h=>⟨λj=>(by rw[j]at a;cases a),λ_=>h⟩)
theorem zUJ{s:List Nat}{x:FL}{l:List AV}{i left m:Int}{d N:Nat}{deep:Int}(a:x.b=true):Wp (zAO d (N+1) deep left s i x.e x.f x.b m l) (zTS s x):=by
 rw[zEK];exact Wa (λh=>by rw[a]at h;cases h) λ_=>Wb ⟨_,_,_,_,rfl⟩
theorem ze2{s:List Nat}(hs:s.length<=65536){g:Nat}(h1:zdE s g){d:Nat}(J:3*g+2<=d){x:FL}(E:x.b=false)(l:List AV):∀(N z i n:Nat)(t:RT),n<=64->65<=n+z->z<N->l.length+t.size<=n->i<=s.length →
  Wp (zAO d N (ofNat (32-g)) (ofNat (l.length+t.size-1)) s (ofNat i) x.e x.f x.b (ofNat n) (l++t.fl l.length)) (zTT s l x (zJz (andM s g) s 124 9 z i n t)):=by
 intro N
 induction N with
 |zero=>intro z i n t _ _ h;omega
 |succ N R=>
  intro z i n t T U V S K;obtain⟨z,rfl⟩:∃k,z=k+1:=⟨z-1,by omega⟩
  obtain⟨N,rfl⟩:∃k,N=k+1:=⟨N-1,by omega⟩
  have hk:=zBi K;rw[zEK,zJz];refine Wa (λ_=>qd8 (zNX hs x (ofNat n) _ i K) (Wa (λh=>?_) λh=>?_)) λh=>by rw[E]at h;cases h
  .have h:s[sk s i]?=some 124:=(zDU (by decide)).1 ((zIu (y:=124)).1 h)
   rw[if_pos h,zI8];have C:=zEN h;by_cases A:64<n+1
   .rw[if_pos A];refine qdU (zP4 E A (by omega)) ?_
    rw[zd (by omega)]
    obtain⟨v,F,j⟩:=h1 d ⟨3,ofNat (sk s i),true⟩ (l++t.fl l.length) (sk s i+1) 0 (ofNat (n+1)) J ⟨C,λh=>by cases h⟩
    obtain⟨y,D,B,I,rfl⟩:=j.1 rfl;refine qdI F ?_
    obtain⟨w,H⟩:=zLA (s:=s) (x:=⟨3,ofNat (sk s i),true⟩) (l:=I) (i:=D) (n:=B) (k:=ofNat 9) (a:=[]) (b:=[]) (m:=ofNat 0) (p:=ofNat (l.length+t.size-1)) (q:=y) rfl;exact qdI H (zUJ rfl)
   .rw[if_neg A];refine qdU (zTs (by omega)) ?_
    rw[zd (by omega)]
    have G:(l++t.fl l.length).length<=n+1:=by rw[QC,RT.fl_length];omega
    obtain⟨v,F,j⟩:=h1 d x (l++t.fl l.length) (sk s i+1) (n+1) (ofNat (n+1)) J ⟨C,λ_=>⟨rfl,by omega,G⟩⟩
    have j:=j.2 E;cases hx:andM s g (sk s i+1) (n+1)with
    |error e=>
     rw[hx]at j;obtain⟨y,D,B,I,rfl⟩:=j;refine qdI F ?_
     obtain⟨w,H⟩:=zLA (s:=s) (x:=⟨e.1,e.2,true⟩) (l:=I) (i:=D) (n:=B) (k:=ofNat 9) (a:=[]) (b:=[]) (m:=ofNat 0) (p:=ofNat (l.length+t.size-1)) (q:=y) rfl;exact qdI H (zUJ rfl)
    |ok r=>
     obtain⟨D,B,u⟩:=r;rw[hx]at j;have j:v=_:=j;subst j;obtain⟨g1,g2,g3,g4,g5⟩:=zPr s g _ _ _ _ _ (show sk s i+1<=s.length by omega) (by omega) hx
     have O:(RT.two 9 t u).size=t.size+u.size+1:=rfl;refine qdI F (qdI (zXT E ?_) ?_)
     .rw[QC,RT.fl_length,QC,RT.fl_length];omega
     .have Q:(l++t.fl l.length++u.fl (l++t.fl l.length).length).length=l.length+(RT.two 9 t u).size-1:=by
       rw[QC,RT.fl_length,QC,RT.fl_length];omega
      have M:=zUI l 9 t u;rw[Q];have:=R z D B (.two 9 t u) g4 (by omega) (by omega) (by omega) g2
      rw[←M]at this;exact this
  .have h:¬s[sk s i]?=some 124:=λL=>(zNh (y:=124)).1 h ((zDU (by decide)).2 L)
   rw[if_neg h];exact Wb rfl
theorem zgm{s:List Nat}(hs:s.length<=65536){g:Nat}(h1:zdE s g):POr s g:=by
 intro d x l i n m B q;obtain⟨d,rfl⟩:∃k,d=k+1:=⟨d-1,by omega⟩
 rw[zKd];obtain⟨v,t,f⟩:=h1 d x l i n m (by omega) q
 rw[show ze=1180591620717411303423+1 from zE3]
 by_cases a:x.b=true
 .obtain⟨y,w,p,A,rfl⟩:=f.1 a;exact qdI t ((zUJ a).mono λv h=>⟨λ_=>h,λj=>by rw[j]at a;cases a⟩)
 .have a:x.b=false:=by simpa using a
  have f:=f.2 a;obtain⟨D,z,C⟩:=q.2 a;show Wp _ (zIv s l x (zF1 (andM s g) s 124 9 i n))
  unfold zF1;cases hx:andM s g i n with
  |error e=>
   rw[hx]at f;obtain⟨y,w,p,A,rfl⟩:=f;exact qdI t ((zUJ (x:=⟨e.1,e.2,true⟩) rfl).mono λv h=>⟨λj=>(by rw[j]at a;cases a),λ_=>h⟩)
  |ok r=>
   obtain⟨w,p,u⟩:=r;rw[hx]at f;have f:v=_:=f;subst f;obtain⟨g1,g2,g3,g4,g5⟩:=zPr s g _ _ _ _ _ q.1 z hx;refine qdI t ((ze2 hs h1 (by omega) a l _ 65 w p u g4 (by omega) (by omega) (by omega) g2).mono λv h=>⟨λj=>(by rw[j]at a;cases a),λ_=>h⟩)
theorem zUK{s:List Nat}{x:FL}{y i n:Int}{l:List AV}{d:Nat}:Wp (zBG d y s i x.e x.f x.b n l) (zTS s x):=by
 rw[zEv];exact Wb ⟨_,_,_,_,rfl⟩
theorem zUL{s:List Nat}{x:FL}{y i n:Int}{l:List AV}{d:Nat}:Wp (zAe d y false s i x.e x.f x.b n l) (zTS s x):=by
 rw[zEw];exact Wf rfl<|zUK
theorem zbV{s:List Nat}(hs:s.length<=65536){x:FL}{l:List AV}(d:Nat)(g:x.b=false)(i n:Nat)(t:RT)(j:i<=s.length):Wp (br (!x.b) (dD true [.v (.i .u8),.hc 0 false 7,.v .s,.v (.i .i64),.v (.c (AV.sym 0)),.v (.i .i64),.v (.i .i64),.v .b,.v (.i .i64),.vec 0 6] (zw s (ofNat i) x.e x.f x.b (ofNat n) (l++t.fl l.length)) λn10 p n11 n12 n13 q n14 a=>zAe d (ofNat (l.length+t.size-1)) (n10 != 41) p n11 n12 n13 q n14 a) (zAe d (ofNat (l.length+t.size-1)) false s (ofNat i) x.e x.f x.b (ofNat n) (l++t.fl l.length))) (zTT s l x (zPp s (.ok (i,n,t)))):=by
 refine Wa (λ_=>qd8 (zNX hs x (ofNat n) _ i j) ?_) λh=>by rw[g]at h;cases h
 have hk:=zBi j;show Wp _ (zTT s l x (if s[sk s i]?=some 41 then .ok (sk s i+1,n,t)else .error (5,ofNat (sk s i))))
 rw[zEw];refine Wa (λh=>?_) λh=>?_
 .have h:¬s[sk s i]?=some 41:=λk=>by
   unfold pk at h;rw[k]at h;cases h
  rw[if_neg h];refine qdU (zHr x (ofNat n) _ 5 _ _) ?_
  rw[FL.qt g];exact zUK (x:=⟨5,ofNat (sk s i),true⟩)
 .have h:s[sk s i]?=some 41:=by
   have h:(ofNat (pk s i)==ofNat 41)=true:=by
    have h:(!(ofNat (pk s i)==ofNat 41))=false:=h
    simpa using h
   exact(zDU (by decide)).1 (zIu.1 h)
  have:=zEN h;rw[if_pos h,zEv,zd (by omega)]
  exact Wb rfl
theorem zXU{s:List Nat}(hs:s.length<=65536){x:FL}{l:List AV}{i n:Nat}{m:Int}(g:zaO s x l i n m):Wp (dD true [.v (.i .i64),.hc 0 false 7,.v .s,.v (.i .i64),.v (.c (AV.sym 0)),.v (.i .i64),.v (.i .i64),.v .b,.v (.i .i64),.vec 0 6] (zB0 s (ofNat i) x.e x.f x.b m l) λn5 A n6 n7 n8 t z j=>some (AV.int .i64 n5,[(0,HO.cells false [AV.str A,AV.int .i64 n6,AV.sym 0,AV.int .i64 n7,AV.int .i64 n8,AV.bool t,AV.int .i64 z])],[(0,VI.vec 6 j)])) (zIv s l x (zEM s i n)):=by
 obtain⟨v,k,a⟩:=ze1 (s:=s) (x:=x) (l:=l) hs i n m g.1 (λh=>⟨(g.2 h).1,(g.2 h).2.1⟩) λh=>by have:=g.2 h;omega
 by_cases d:x.b=true
 .obtain⟨y,q,p,B,rfl⟩:=a.1 d;exact qdI k (Wb a)
 .have d:x.b=false:=by simpa using d
  cases hx:zEM s i n with
  |error e=>
   rw[hx]at a;obtain⟨y,q,p,B,rfl⟩:=a.2 d;exact qdI k (Wb a)
  |ok r=>
   obtain⟨q,p,u⟩:=r;rw[hx]at a;have w:v=_:=a.2 d;subst w;exact qdI k (Wb a)
theorem zgJ{s:List Nat}(hs:s.length<=65536):∀g,g<=32->zdD s g:=by
 intro g
 induction g with
 |zero=>
  intro _ d x l i n m V E;obtain⟨d,rfl⟩:∃k,d=k+1:=⟨d-1,by omega⟩
  have hk:=zBi E.1;rw[zFm];refine qd8 (zNX hs x m l i E.1) ?_
  have R:∀b:Bool,(b=true↔(s[sk s i]?=some 33\/s[sk s i]?=some 40))->Wp (zAB d (ofNat (32-0)) (ofNat (pk s i)) (ofNat (sk s i)) b s (ofNat (sk s i)) x.e x.f x.b m l) (zIv s l x (zGo s 0 i n)):=λb M=>by
   rw[zEx,zGo];refine Wa (λh=>Wc (λ_=>qdU (zHr x m l 3 _ _) ?_) λh=>absurd (by decide) h) λh=>?_
   .rw[if_pos (M.1 h)];refine Wb ⟨λj=>?_,λj=>?_⟩
    .rw[FL.qG j];exact⟨_,_,_,_,rfl⟩
    .rw[FL.qt j];exact⟨_,_,_,_,rfl⟩
   .rw[if_neg (λt=>by rw[M.2 t]at h;cases h)]
    exact zXU hs ⟨hk,E.2⟩
  refine Wa (λh=>R _ ⟨λ_=>.inl ((zDU (by decide)).1 ((zIu (y:=33)).1 h)),λ_=>rfl⟩) λh=>R _ ⟨λt=>.inr ((zDU (by decide)).1 ((zIu (y:=40)).1 t)),λt=>?_⟩
  rcases t with t|t
  .exact absurd ((zDU (by decide)).2 t) ((zNh (y:=33)).1 h)
  .exact(zIu (y:=40)).2 ((zDU (by decide)).2 t)
 |succ g O=>
  intro hg d x l i n m V E;have O:=O (by omega)
  have T:=zgm hs (zdP hs O);obtain⟨d,rfl⟩:∃k,d=k+1:=⟨d-1,by omega⟩
  have hk:=zBi E.1;have deep:wrapx .i64 (ofNat (32-(g+1))+1)=ofNat (32-g):=by rw[zd (by omega),show 32-(g+1)+1=32-g by omega]
  have J:¬(ofNat (32-(g+1))>=32):=by rw[qJ];omega
  have I:(ofNat (pk s i)==33)=true↔s[sk s i]?=some 33:=(zIu (y:=33)).trans (zDU (by decide))
  have c40:(ofNat (pk s i)==40)=true↔s[sk s i]?=some 40:=(zIu (y:=40)).trans (zDU (by decide))
  rw[zFm];refine qd8 (zNX hs x m l i E.1) ?_
  have R:∀b:Bool,(b=true↔(s[sk s i]?=some 33\/s[sk s i]?=some 40))->Wp (zAB d (ofNat (32-(g+1))) (ofNat (pk s i)) (ofNat (sk s i)) b s (ofNat (sk s i)) x.e x.f x.b m l) (zIv s l x (zGo s (g+1) i n)):=λb M=>by
   rw[zEx,zGo];refine Wa (λS=>Wc (λh=>absurd h J) λ_=>Wa (λh=>?_) λh=>?_) λG=>?_
   .have A:=I.1 h;have C:=zEN A;rw[if_pos A,deep];by_cases j:x.b=true
    .refine qdU (zbU j) ?_
     rw[zd (by omega)]
     obtain⟨v,F,z⟩:=O d x l (sk s i+1) 0 (wrapx .i64 (m+1)) (by omega) ⟨C,λh=>by rw[h]at j;cases j⟩
     obtain⟨y,D,B,K,rfl⟩:=z.1 j;obtain⟨w,Q⟩:=zLA (s:=s) (x:=x) (l:=K) (i:=D) (n:=B) (k:=ofNat 7) (a:=[]) (b:=[]) (m:=ofNat 0) (p:=y) (q:=Int.negSucc 0) j;exact qdI F (qdI Q (Wb ⟨λ_=>⟨_,_,_,_,rfl⟩,λh=>by rw[h]at j;cases j⟩))
    .have j:x.b=false:=by simpa using j
     obtain⟨rfl,U,W⟩:=E.2 j;by_cases L:64<n+1
     .rw[if_pos L];refine qdU (zP4 j L (by omega)) ?_
      rw[zd (by omega)]
      obtain⟨v,F,z⟩:=O d ⟨3,ofNat (sk s i),true⟩ l (sk s i+1) 0 (ofNat (n+1)) (by omega) ⟨C,λh=>by cases h⟩
      obtain⟨y,D,B,K,rfl⟩:=z.1 rfl;obtain⟨w,Q⟩:=zLA (s:=s) (x:=⟨3,ofNat (sk s i),true⟩) (l:=K) (i:=D) (n:=B) (k:=ofNat 7) (a:=[]) (b:=[]) (m:=ofNat 0) (p:=y) (q:=Int.negSucc 0) rfl;exact qdI F (qdI Q (Wb ⟨λh=>(by rw[h]at j;cases j),λ_=>⟨_,_,_,_,rfl⟩⟩))
     .rw[if_neg L];refine qdU (zTs (by omega)) ?_
      rw[zd (by omega)]
      obtain⟨v,F,z⟩:=O d x l (sk s i+1) (n+1) (ofNat (n+1)) (by omega) ⟨C,λ_=>⟨rfl,by omega,by omega⟩⟩
      have z:=z.2 j;cases hy:zGo s g (sk s i+1) (n+1)with
      |error e=>
       rw[hy]at z;obtain⟨y,D,B,K,rfl⟩:=z;obtain⟨w,Q⟩:=zLA (s:=s) (x:=⟨e.1,e.2,true⟩) (l:=K) (i:=D) (n:=B) (k:=ofNat 7) (a:=[]) (b:=[]) (m:=ofNat 0) (p:=y) (q:=Int.negSucc 0) rfl;exact qdI F (qdI Q (Wb ⟨λh=>(by rw[h]at j;cases j),λ_=>⟨_,_,_,_,rfl⟩⟩))
      |ok r=>
       obtain⟨D,B,u⟩:=r;rw[hy]at z;have z:v=_:=z;subst z;obtain⟨g1,g2,g3,g4,g5⟩:=zLy s g _ _ _ _ _ (show sk s i+1<=s.length by omega) (by omega) hy
       refine qdI F (qdI (zXT j (by rw[QC,RT.fl_length];omega)) (Wb ⟨λh=>(by rw[h]at j;cases j),λ_=>?_⟩))
       have Y:l++u.fl l.length++[nd6 (ofNat 7) [] [] (ofNat 0) (ofNat (l.length+u.size-1)) (Int.negSucc 0)]=l++(RT.not u).fl l.length:=by rw[RT.fl,Qo];rfl
       have X:(l++u.fl l.length).length=l.length+(RT.not u).size-1:=by
        rw[QC,RT.fl_length];show _=l.length+(u.size+1)-1
        omega
       show outB (.int .i64 (ofNat (l++u.fl l.length).length)) s (ofNat D) x (ofNat B) (l++u.fl l.length++[nd6 (ofNat 7) [] [] (ofNat 0) (ofNat (l.length+u.size-1)) (Int.negSucc 0)])=_
       rw[Y,X]
   .have A:¬s[sk s i]?=some 33:=λt=>by rw[I.2 t]at h;cases h
    have H:s[sk s i]?=some 40:=(M.1 S).resolve_left A;have C:=zEN H;rw[if_neg A,if_pos H,deep,zd (by omega)]
    obtain⟨v,F,z⟩:=T d x l (sk s i+1) n m (by omega) ⟨C,E.2⟩
    by_cases j:x.b=true
    .obtain⟨y,D,B,K,rfl⟩:=z.1 j;refine qdI F (Wa (λh=>by rw[j]at h;cases h) λ_=>zUL.mono λv h=>⟨λ_=>h,λh=>by rw[h]at j;cases j⟩)
    .have j:x.b=false:=by simpa using j
     have z:=z.2 j;obtain⟨rfl,U,W⟩:=E.2 j;cases hy:orM s g (sk s i+1) n with
     |error e=>
      rw[hy]at z;obtain⟨y,D,B,K,rfl⟩:=z;refine qdI F (Wf rfl<|(zUL (x:=⟨e.1,e.2,true⟩)).mono λv h=>⟨λh=>(by rw[h]at j;cases j),λ_=>?_⟩)
      show zTT s l x (zPp s (orM s g (sk s i+1) n)) v
      rw[hy];exact h
     |ok r=>
      obtain⟨D,B,u⟩:=r;rw[hy]at z;have z:v=_:=z;subst z;obtain⟨g1,g2,_⟩:=zRE s g _ _ _ _ _ (show sk s i+1<=s.length by omega) U hy
      refine qdI F ((zbV hs d j D B u g2).mono λv h=>⟨λh=>(by rw[h]at j;cases j),λ_=>?_⟩)
      show zTT s l x (zPp s (orM s g (sk s i+1) n)) v
      rw[hy];exact h
   .have A:¬s[sk s i]?=some 33:=λt=>by rw[M.2 (.inl t)]at G;cases G
    have H:¬s[sk s i]?=some 40:=λt=>by rw[M.2 (.inr t)]at G;cases G
    rw[if_neg A,if_neg H];exact zXU hs ⟨hk,E.2⟩
  refine Wa (λh=>R _ ⟨λ_=>.inl (I.1 h),λ_=>rfl⟩) λh=>R _ ⟨λt=>.inr (c40.1 t),λt=>?_⟩
  rcases t with t|t
  .rw[I.2 t]at h;cases h
  .exact c40.2 t
theorem zgK{s:List Nat}(hs:s.length<=65536):POr s 32:=zgm hs (zdP hs (zgJ hs 32 (QA _)))
def dec(n:Nat):List Nat:=(Lib.decDigits n).map UInt8.toNat
theorem zRF(n:Nat):dec n=if n<10 then[48+n]else dec (n / 10)++[48+n % 10]:=by
 unfold dec;rw[Lib.decDigits];by_cases h:n<10
 .rw[dif_pos h,if_pos h];simp only[Qe,List.map_nil,zP2 h]
 .rw[dif_neg h,if_neg h,Qq];simp only[Qe,List.map_nil,zP2 (Nat.mod_lt n (by decide:0<10))]
theorem zXV(n:Nat):decI (n:Int)=dec n:=by
 unfold decI Lib.itoa dec;rw[if_neg (by omega),Int.toNat_natCast]
theorem zNC(n:Nat)(h:n<=9223372036854775807):(dec n).length<=21:=by
 have:=Lib.itoa_length_le (n:Int) (by omega) (by omega)
 unfold Lib.itoa at this;rw[if_neg (by omega),Int.toNat_natCast]at this
 unfold dec;rw[QG];exact this
theorem zXW(n:Int)(a:-9223372036854775808<=n)(h1:n<=9223372036854775807):(decI n).length<=21:=by
 unfold decI;rw[QG];exact Lib.itoa_length_le n a h1
theorem zc9(n:Int)(a:-9223372036854775808<=n)(h1:n<=9223372036854775807):zFq n (ofNat 10)=some (.str (decI n)):=by
 show(match((ofNat 10==10)&&decide (-9223372036854775808<=n/\n<=9223372036854775807))with|true=>some (AV.str ((Lib.itoa n).map UInt8.toNat))|false=>none)=_
 rw[QM (⟨a,h1⟩:-9223372036854775808<=n/\n<=9223372036854775807)];rfl
theorem zP5(k:Nat)(h:k<10):zBw (chunks 1 1 (qi [AV.int .u8 (ofNat 0)] 0 (AV.cells (AV.int .u8 (wrapx IntKind.u8 (wrapx IntKind.i64 (48+(k:Int))))))))=some [48+k]:=by
 match k,h with
 |0,_|1,_|2,_|3,_|4,_|5,_|6,_|7,_|8,_|9,_=>rfl
theorem zUM(n:Nat)(g:n<=9223372036854775807):∀d:Nat,n<d->zBY d (n:Int)=some (.str (dec n)):=by
 induction n using Nat.strongRecOn with
 |ind n b=>
  intro d f;obtain⟨d,rfl⟩:∃k,d=k+1:=⟨d-1,by omega⟩
  refine zf ?_
  rw[zLI];refine Wc (λh=>?_) λh=>?_
  .have h:n<10:=by omega
   rw[zP5 n h,zRF,if_pos h];exact Wb rfl
  .have h:¬n<10:=by omega
   have a:wrapx .i64 (Int.tdiv (n:Int) 10)=((n / 10:Nat):Int):=by
    rw[show Int.tdiv (n:Int) 10=((n / 10:Nat):Int)from rfl,zm (by omega) (by omega)]
   have e:Int.tmod (n:Int) 10=((n % 10:Nat):Int):=rfl;rw[a,e];refine zBV (b (n / 10) (by omega) (by omega) d (by omega)) ?_
   rw[zP5 (n % 10) (Nat.mod_lt n (by decide)),zRF n,if_neg h]
   have:=zNC (n / 10) (by omega)
   refine We ?_ (Wb rfl)
   show(dec (n / 10)).length+1<=zh
   unfold zh;omega
def RT.bd(M:Nat):RT->Prop
 |.leaf k a b n=>a.length+b.length<=M/\-9223372036854775808<=n/\n<=9223372036854775807
 |.not t=>t.bd M
 |.two k t u=>t.bd M/\u.bd M
def RT.pos:RT->Prop
 |.leaf k a b n=>0<=n
 |.not t=>t.pos
 |.two k t u=>t.pos/\u.pos
theorem RT.wf.bd{t:RT}(h:t.wf):t.bd 56/\t.pos:=by
 induction t with
 |leaf k a b n=>
  rcases h with⟨_,rfl,rfl,rfl⟩|⟨h1,_,⟨_,f,rfl⟩|⟨_,rfl,f,j⟩|⟨_,rfl,rfl⟩⟩
  .exact⟨⟨by decide,by omega,by omega⟩,Int.le_refl _⟩
  .exact⟨⟨by have:=h1.1;have:=f.2.1;omega,by omega,by omega⟩,Int.le_refl _⟩
  .exact⟨⟨by have:=h1.1;simp;omega,by omega,by omega⟩,f⟩
  .exact⟨⟨by have:=h1.1;simp;omega,by omega,by omega⟩,Int.le_refl _⟩
 |not t g=>exact g h
 |two k t u d e=>exact⟨⟨(d h.2.1).1,(e h.2.2).1⟩,(d h.2.1).2,(e h.2.2).2⟩
theorem zC6(g m:Int)(s:List Nat):(parT g m s).length<=s.length+2:=by
 unfold parT;split
 .simp only[QC,QL,QZ];omega
 .omega
theorem zbW{k:Int}{a b:List Nat}{n:Int}{M:Nat}(h:a.length+b.length<=M)(d:-9223372036854775808<=n)(h1:n<=9223372036854775807):(zL4 k a b n).length<=M+24:=by
 have:=zXW n d h1;unfold zL4
 repeat' split
 all_goals try simp only[QC,QL,QZ]
 all_goals omega
theorem zG9{M:Nat}:∀{t:RT},t.bd M->t.told.length<=t.size*(M+40)
 |.leaf k a b n,h=>by
  have:=zbW (k:=k) h.1 h.2.1 h.2.2;show(zL4 k a b n).length<=1*(M+40)
  omega
 |.not t,h=>by
  have:=zG9 (t:=t) h;have:=zC6 t.tg 2 t.told;show([33]++parT t.tg 2 t.told).length<=(t.size+1)*(M+40)
  rw[Nat.add_mul];simp only[QC,QL,QZ];omega
 |.two k t u,h=>by
  have h1:=zG9 (t:=t) h.1;have j:=zG9 (t:=u) h.2;have e:(t.size+u.size+1)*(M+40)=t.size*(M+40)+u.size*(M+40)+(M+40):=by rw[Nat.add_mul,Nat.add_mul,Nat.one_mul]
  have f:=zC6 t.tg 1 t.told;have p:=zC6 u.tg 2 u.told;have d:=zC6 t.tg 0 t.told;have g:=zC6 u.tg 1 u.told;show(RT.two k t u).told.length<=(t.size+u.size+1)*(M+40)
  rw[e,RT.told];by_cases hk:k=8
  .rw[if_pos hk];simp only[QC,QL,QZ];omega
  .rw[if_neg hk];simp only[QC,QL,QZ];omega
def Seg(es:List AV)(t:RT)(o:Nat):Prop:=∀j,j<t.size->es[o+j]? = (t.fl o)[j]?
theorem Seg.whole(t:RT):Seg (t.fl 0) t 0:=λj _=>by rw[QY]
theorem Seg.leaf{es:List AV}{o:Nat}{k:Int}{a b:List Nat}{n:Int}(h:Seg es (.leaf k a b n) o):es[o]?=some (nd6 k a b n (Int.negSucc 0) (Int.negSucc 0)):=h 0 Nat.one_pos
theorem Seg.not{es:List AV}{o:Nat}{t:RT}(h:Seg es (.not t) o):Seg es t o/\es[o+t.size]?=some (nd6 7 [] [] (ofNat 0) (ofNat (o+t.size-1)) (Int.negSucc 0)):=by
 have a:(RT.not t).size=t.size+1:=rfl;refine⟨λj b=>?_,?_⟩
 .rw[h j (by omega),RT.fl,Qs (by rw[RT.fl_length];omega)]
 .rw[h t.size (by omega),RT.fl,List.getElem?_append_right (by rw[RT.fl_length];omega),RT.fl_length,Nat.sub_self]
  rfl
theorem Seg.two{es:List AV}{o:Nat}{k:Int}{t u:RT}(h:Seg es (.two k t u) o):Seg es t o/\Seg es u (o+t.size)/\es[o+t.size+u.size]?=some (nd6 k [] [] (ofNat 0) (ofNat (o+t.size-1)) (ofNat (o+t.size+u.size-1))):=by
 have d:(RT.two k t u).size=t.size+u.size+1:=rfl;refine⟨λj b=>?_,λj b=>?_,?_⟩
 .rw[h j (by omega),RT.fl,Qs (by rw[QC,RT.fl_length];omega),Qs (by rw[RT.fl_length];omega)]
 .rw[show o+t.size+j=o+(t.size+j) by omega,h (t.size+j) (by omega),RT.fl,Qs (by rw[QC,RT.fl_length,RT.fl_length];omega),List.getElem?_append_right (by rw[RT.fl_length];omega),RT.fl_length]
  congr 1;omega
 .have a:=h (t.size+u.size) (by omega)
  rw[←Nat.add_assoc]at a;rw[a,RT.fl,List.getElem?_append_right (by rw[QC,RT.fl_length,RT.fl_length];omega),QC,RT.fl_length,RT.fl_length,Nat.sub_self]
  rfl
theorem zbX(k:Int)(a b:List Nat)(n l r:Int):zCh k a b n l r=some (.int .i64 (if k=9 then 0 else if k=8 then 1 else 2)):=by
 refine zf ?_
 rw[zG2];refine Wa (λh=>Wb ?_) λh=>Wa (λd=>Wb ?_) λd=>Wb ?_
 .rw[if_pos (by simpa using h)];rfl
 .rw[if_neg (by simpa using h),if_pos (by simpa using d)];rfl
 .rw[if_neg (by simpa using h),if_neg (by simpa using d)];rfl
theorem zOL{d:Nat}{m k:Int}{s a b:List Nat}{n l r:Int}{g:Int}(e:(if k=9 then(0:Int)else if k=8 then 1 else 2)=g)(hs:s.length<=9000000000000000000):zl d m s k a b n l r=some (.str (parT g m s)):=by
 refine zf ?_
 rw[zGq];refine qk_i (zbX k a b n l r) ?_
 rw[e];have m0:zh=9223372036854775807:=rfl;unfold parT;refine Wc (λh=>We ?_ (We ?_ (Wb ?_))) λh=>Wb ?_
 .simp only[QL,QZ];omega
 .simp only[QC,QL,QZ];omega
 .rw[if_pos h]
 .rw[if_neg h]
def RT.kd:RT->Prop
 |.leaf k a b n=>1<=k/\k<=6
 |.not t=>t.kd
 |.two k t u=>(k=8\/k=9)/\t.kd/\u.kd
theorem RT.wf.kd{t:RT}(h:t.wf):t.kd:=by
 induction t with
 |leaf k a b n=>
  rcases h with⟨rfl,_⟩|⟨_,_,⟨rfl|rfl,_⟩|⟨rfl|rfl,_⟩|⟨rfl,_⟩⟩<;>exact⟨by decide,by decide⟩
 |not t f=>exact f h
 |two k t u d e=>exact⟨h.1,d h.2.1,e h.2.2⟩
theorem zBj{es:List AV}{j:Nat}{k n l r:Int}{a b:List Nat}(h:es[j]?=some (nd6 k a b n l r)){β:Type}{P:β->Prop}{wk:Bool}{f:Int->List Nat->List Nat->Int->Int->Int->Option β}(p:Wp (f k a b n l r) P):Wp (dK wk yp (ixN es (ofNat j)) f) P:=zE1 (zJ5.trans h) p
theorem zXX{es:List AV}{M:Nat}(hM:M<=5000000):∀(t:RT)(o d:Nat)(m:Int),t.size<=d->t.size<=1000->Seg es t o->t.bd M->t.pos->t.kd->zq d es (ofNat (o+t.size-1)) m=some (.str (parT t.tg m t.told)):=by
 have m0:zh=9223372036854775807:=rfl;intro t
 induction t with
 |leaf k a b n=>
  intro o d m K L hs r E hk;have j:(RT.leaf k a b n).size=1:=rfl;obtain⟨d,rfl⟩:∃e,d=e+1:=⟨d-1,by omega⟩
  refine zf ?_
  rw[zC4,j,show o+1-1=o by omega]
  refine zBj hs.leaf ?_
  have z:1<=k:=hk.1;have W:k<=6:=hk.2;have J:0<=n:=E;obtain⟨nn,rfl⟩:=Int.eq_ofNat_of_zero_le J;obtain⟨q,p,ab⟩:=r;have y:=zUM nn (by omega) ze (zk (by omega))
  have X:=zNC nn (by omega)
  have S:(RT.leaf k a b (nn:Int)).tg=2:=rfl;have f:∀w:List Nat,w=zL4 k a b nn->w.length<=9000000000000000000->Wp (zl d m w k a b (nn:Int) (Int.negSucc 0) (Int.negSucc 0)) λv=>v=.str (parT (RT.leaf k a b (nn:Int)).tg m (RT.leaf k a b (nn:Int)).told):=λw V Q=>by
   have R:(if k=9 then(0:Int)else if k=8 then 1 else 2)=2:=by rw[if_neg (by omega),if_neg (by omega)]
   refine⟨_,zOL R Q,?_⟩
   rw[V];rfl
  unfold zL4 at f;refine Wa (λh=>f _ ?_ (by simp)) λh1=>Wa (λh=>We ?_ (We ?_ (f _ ?_ ?_))) λh2=>Wa (λh=>We ?_ (We ?_ (f _ ?_ ?_))) λh3=>Wa (λh=>We ?_ (zBV y (We ?_ (f _ ?_ ?_)))) λh4=>Wa (λh=>We ?_ (zBV y (We ?_ (f _ ?_ ?_)))) λh5=>Wa (λh=>f _ ?_ ?_) λh6=>?_
  all_goals simp only[beq_iff_eq,beq_eq_false_iff_ne,ne_eq]at *
  all_goals first
   |(simp only[QC,QL,QZ];omega)
   |(subst h;simp[zXV];done)
   |omega
 |not t ih=>
  intro o d m K L hs r E hk;have j:(RT.not t).size=t.size+1:=rfl;have:=t.size_pos;obtain⟨d,rfl⟩:∃e,d=e+1:=⟨d-1,by omega⟩
  refine zf ?_
  rw[zC4,j,show o+(t.size+1)-1=o+t.size by omega]
  obtain⟨H,G⟩:=hs.not;refine zBj G ?_
  have r:t.bd M:=r;have Q:=zG9 r;have I:=zC6 t.tg 2 t.told;have O:t.size*(M+40)<=1000*5000040:=Nat.mul_le_mul (by omega) (by omega)
  refine Wf rfl<|Wf rfl<|Wf rfl<|Wf rfl<|Wf rfl<|Wf rfl<|Wt rfl (?_)
  refine zBV (ih o d 2 (by omega) (by omega) H r E hk) (We ?_ ⟨_,zOL (g:=2) rfl ?_,rfl⟩)
  .simp only[QL,QZ];omega
  .simp only[QC,QL,QZ];omega
 |two k t u F C=>
  intro o d m K L hs r E hk;have j:(RT.two k t u).size=t.size+u.size+1:=rfl;have:=t.size_pos;have:=u.size_pos;obtain⟨d,rfl⟩:∃e,d=e+1:=⟨d-1,by omega⟩
  refine zf ?_
  rw[zC4,j,show o+(t.size+u.size+1)-1=o+t.size+u.size by omega]
  obtain⟨H,G,Y⟩:=hs.two;refine zBj Y ?_
  obtain⟨q,p⟩:=r;obtain⟨A,D⟩:=E;obtain⟨hk,z,B⟩:=hk;have aa:=zG9 q;have I:=zG9 p;have T:t.size*(M+40)<=1000*5000040:=Nat.mul_le_mul (by omega) (by omega)
  have U:u.size*(M+40)<=1000*5000040:=Nat.mul_le_mul (by omega) (by omega)
  have p1:=zC6 t.tg 1 t.told;have p2:=zC6 u.tg 2 u.told;have p3:=zC6 t.tg 0 t.told;have p4:=zC6 u.tg 1 u.told;rcases hk with rfl|rfl
  .refine Wf rfl<|Wf rfl<|Wf rfl<|Wf rfl<|Wf rfl<|Wf rfl<|Wf rfl<|Wt rfl (?_)
   refine zBV (F o d 1 (by omega) (by omega) H q A z) (We ?_ (zBV (C (o+t.size) d 2 (by omega) (by omega) G p D B) (We ?_ ⟨_,zOL (g:=1) rfl ?_,rfl⟩)))
   all_goals simp only[QC,QL,QZ]
   all_goals omega
  .refine Wf rfl<|Wf rfl<|Wf rfl<|Wf rfl<|Wf rfl<|Wf rfl<|Wf rfl<|Wf rfl<|Wt rfl (?_)
   refine zBV (F o d 0 (by omega) (by omega) H q A z) (We ?_ (zBV (C (o+t.size) d 1 (by omega) (by omega) G p D B) (We ?_ ⟨_,zOL (g:=0) rfl ?_,rfl⟩)))
   all_goals simp only[QC,QL,QZ]
   all_goals omega
noncomputable def zTU(r:RE RT):AV:=match r with
 |.ok t=>.qc [.agg [.qg 6 (t.fl 0)],.agg [.int .i64 (ofNat 0),.int .i64 (ofNat 0)]]
 |.error (e,f)=>.qc [.agg [.qa],.agg [.int .i64 e,.int .i64 f]]
theorem zXY{s:List Nat}{x:FL}{i n p q:Int}{l:List AV}:zBu s i x.e x.f x.b n p q l=some (if x.b=true then .qc [.agg [.qa],.agg [.int .i64 x.e,.int .i64 x.f]]else .qc [.agg [.qg 6 l],.agg [.int .i64 (ofNat 0),.int .i64 (ofNat 0)]]):=by
 refine zf ?_
 rw[zKP];refine Wa (λh=>Wb ?_) λh=>Wb ?_
 .rw[if_pos h]
 .rw[if_neg (by rw[h];decide)]
theorem zZw{s:List Nat}{x:FL}{i n p q:Int}{l:List AV}(a:x.b=true):zCE s i x.e x.f x.b n p q l=some (.qc [.agg [.qa],.agg [.int .i64 x.e,.int .i64 x.f]]):=by
 refine zf ?_
 rw[zGc];refine Wa (λh=>by rw[a]at h;cases h) λ_=>?_
 rw[zXY,if_pos a];exact Wb rfl
theorem zWn(s:List Nat):zFi s=some (zTU (zGB s)):=by
 refine zf ?_
 rw[zMp];unfold zGB;refine Wc (λh=>Wb ?_) λh=>?_
 .rw[if_pos (by rw[qJ]at h;omega)];rfl
 have hs:s.length<=1024:=by rw[qJ]at h;omega
 rw[if_neg (by omega)]
 obtain⟨v,k,d⟩:=zgK (s:=s) (by omega) ze ⟨0,0,false⟩ [] 0 0 0 (Qm (zk (by omega))) ⟨QI _,λ_=>⟨rfl,by omega,QA _⟩⟩
 have d:=d.2 rfl;cases hx:orM s 32 0 0 with
 |error e=>
  rw[hx]at d;obtain⟨y,w,q,u,rfl⟩:=d;refine qdI k (Wf rfl<|Wf rfl<|?_)
  rw[zDB];refine Wf rfl<|⟨_,zZw (x:=⟨e.1,e.2,true⟩) rfl,rfl⟩
 |ok r=>
  obtain⟨i,n,t⟩:=r;rw[hx]at d;have d:v=_:=d;subst d;obtain⟨g1,g2,g3,g4,g5⟩:=zRE s 32 _ _ _ _ _ (QI _) (by omega) hx
  have hk:=zBi g2;have f:=t.size_pos;refine qdI k (Wt rfl (qd8 (zNX (by omega) ⟨0,0,false⟩ _ _ i g2) ?_))
  have ok:s.length<=sk s i->Wp (zK false s (ofNat (sk s i)) 0 0 false (ofNat n) (ofNat 0) (ofNat 0) ([]++t.fl ([]:List AV).length)) λv=>v=zTU (if sk s i<s.length then .error (5,ofNat (sk s i))else if 1024<t.told.length then .error (3,Int.negSucc 0)else .ok t):=λp=>by
   rw[zDB,if_neg (by omega)]
   refine Wf rfl<|?_
   rw[zGc];refine Wt rfl (?_)
   have g:([]++t.fl ([]:List AV).length:List AV).length=t.size:=by rw[List.nil_append,RT.fl_length]
   have b:=zXX (es:=[]++t.fl ([]:List AV).length) (M:=56) (by decide) t 0 ze 0 (Qm (zk (by omega))) (by omega) (Seg.whole t) g5.bd.1 g5.bd.2 g5.kd
   have j:parT t.tg 0 t.told=t.told:=by
    unfold parT;have:¬t.tg<0:=by
     unfold RT.tg;split
     .repeat' split
      all_goals decide
     .decide
    rw[if_neg this]
   rw[j,QY]at b;rw[g,zA8 f (by omega)]
   refine zBV b (Wc (λh=>qdU (zHr ⟨0,0,false⟩ _ _ 3 _ _) ?_) λh=>?_)
   .rw[if_pos (by rw[qJ]at h;omega)]
    rw[FL.qt rfl];rw[zXY (x:=⟨3,Int.negSucc 0,true⟩)];exact Wb rfl
   .rw[if_neg (by rw[qJ]at h;omega)]
    rw[zXY (x:=⟨0,0,false⟩)];exact Wb rfl
  have bad:sk s i<s.length->Wp (zK true s (ofNat (sk s i)) 0 0 false (ofNat n) (ofNat 0) (ofNat 0) ([]++t.fl ([]:List AV).length)) λv=>v=zTU (if sk s i<s.length then .error (5,ofNat (sk s i))else if 1024<t.told.length then .error (3,Int.negSucc 0)else .ok t):=λa=>by
   rw[zDB,if_pos a];refine Wt rfl (qdU (zHr ⟨0,0,false⟩ _ _ 5 _ _) ?_)
   rw[FL.qt rfl];exact⟨_,zZw (x:=⟨5,ofNat (sk s i),true⟩) rfl,rfl⟩
  have tail:Wp (zK (decide (ofNat (sk s i)<ofNat s.length)) s (ofNat (sk s i)) 0 0 false (ofNat n) (ofNat 0) (ofNat 0) ([]++t.fl ([]:List AV).length)) λv=>v=zTU (if sk s i<s.length then .error (5,ofNat (sk s i))else if 1024<t.told.length then .error (3,Int.negSucc 0)else .ok t):=by
   by_cases a:sk s i<s.length
   .rw[QM (show ofNat (sk s i)<ofNat s.length from Int.ofNat_lt.2 a)];exact bad a
   .rw[QJ (show ¬ofNat (sk s i)<ofNat s.length from λh=>a (Int.ofNat_lt.1 h))];exact ok (by omega)
  refine Wa (λh=>bad ?_) λ_=>Wt rfl (tail)
  by_cases a:sk s i<s.length
  .exact a
  .exfalso
   have:pk s i=0:=by unfold pk;rw[List.getElem?_eq_none (by omega)];rfl
   rw[this]at h;cases h
structure FA where
 e:Int
 f:Int
def FA.ok(x:FA):Bool:=x.e==0&&x.f==0
def FA.fail(x:FA)(e f:Int):FA:=if x.ok=true then⟨e,f⟩else x
theorem FA.qG{x:FA}(h:x.ok=false)(e f:Int):x.fail e f=x:=if_neg (by rw[h];decide)
theorem FA.qt{x:FA}(h:x.ok=true)(e f:Int):x.fail e f=⟨e,f⟩:=if_pos h
theorem FA.zero{x:FA}(h:x.ok=true):x=⟨0,0⟩:=by
 obtain⟨e,f⟩:=x;unfold FA.ok at h;simp at h;rw[h.1,h.2]
theorem fa5(f:Int):(FA.mk 5 f).ok=false:=rfl
theorem fa3(f:Int):(FA.mk 3 f).ok=false:=rfl
abbrev zBW(v:AV)(s:List Nat)(i dp n:Int)(x:FA)(l:List AV):AV×Heap×Vecs:=(v,[(0,HO.cells false [.str s,.int .i64 i,.int .i64 dp,.int .i64 n,AV.sym 0,.int .i64 x.e,.int .i64 x.f])],[(0,VI.vec 6 l)])
section
variable{β:Type}{wk:Bool}{P:β->Prop}{o:Option (AV×Heap×Vecs)}{s:List Nat}{i dp:Int}{x:FA}{n:Int}{l:List AV}
theorem adU{f:List Nat->Int->Int->Int->Int->Int->List AV->Option β}(h:o=some (zBW (.qc []) s i dp n x l))(k:Wp (f s i dp n x.e x.f l) P):Wp (dD wk [.v (.qc 0),.hc 0 false 7,.v .s,.v (.i .i64),.v (.i .i64),.v (.i .i64),.v (.c (AV.sym 0)),.v (.i .i64),.v (.i .i64),.vec 0 6] o f) P:=by
 subst h;exact k
theorem adB{y:Bool}{f:Bool->List Nat->Int->Int->Int->Int->Int->List AV->Option β}(h:o=some (zBW (.bool y) s i dp n x l))(k:Wp (f y s i dp n x.e x.f l) P):Wp (dD wk [.v .b,.hc 0 false 7,.v .s,.v (.i .i64),.v (.i .i64),.v (.i .i64),.v (.c (AV.sym 0)),.v (.i .i64),.v (.i .i64),.vec 0 6] o f) P:=by
 subst h;exact k
theorem adI{y:Int}{f:Int->List Nat->Int->Int->Int->Int->Int->List AV->Option β}(h:o=some (zBW (.int .i64 y) s i dp n x l))(k:Wp (f y s i dp n x.e x.f l) P):Wp (dD wk [.v (.i .i64),.hc 0 false 7,.v .s,.v (.i .i64),.v (.i .i64),.v (.i .i64),.v (.c (AV.sym 0)),.v (.i .i64),.v (.i .i64),.vec 0 6] o f) P:=by
 subst h;exact k
theorem adS{y:List Nat}{f:List Nat->List Nat->Int->Int->Int->Int->Int->List AV->Option β}(h:o=some (zBW (.str y) s i dp n x l))(k:Wp (f y s i dp n x.e x.f l) P):Wp (dD wk [.v .s,.hc 0 false 7,.v .s,.v (.i .i64),.v (.i .i64),.v (.i .i64),.v (.c (AV.sym 0)),.v (.i .i64),.v (.i .i64),.vec 0 6] o f) P:=by
 subst h;exact k
end
def zgn(c:Nat):Bool:=decide (97<=c/\c<=122\/65<=c/\c<=90)
theorem zgL:∀c,c<256->(decide (IntKind.wrap IntKind.u8 ↑(BitVec.toNat (BitVec.ofInt (IntKind.bits IntKind.u8) (ofNat c) ||| BitVec.ofInt (IntKind.bits IntKind.u8) 32))>=97)&&decide (IntKind.wrap IntKind.u8 ↑(BitVec.toNat (BitVec.ofInt (IntKind.bits IntKind.u8) (ofNat c) ||| BitVec.ofInt (IntKind.bits IntKind.u8) 32))<=122))=zgn c:=by decide +kernel
theorem zhS:∀c,c<256->decide (0<=Lib.indexByte ([45,95,46].map UInt8.ofNat) (UInt8.ofNat c))=decide (c=45\/c=95\/c=46):=by decide +kernel
theorem zRG(c:Nat)(h8:c<256):zEB (ofNat c)=some (.bool (wrdB c)):=by
 have b:zMB (ofNat c)=some (.bool (zgn c)):=by
  rw[←zgL c h8];refine zf ?_
  rw[zTB];refine Wc (λh=>Wb ?_) λh=>Wb ?_
  .rw[QM h];rfl
  .rw[QJ h];rfl
 refine zf ?_
 rw[zTC];refine qk_b b (Wa (λh=>Wb ?_) λh=>qk_b (zKE _) (Wa (λa=>Wb ?_) λa=>?_))
 .have h:=QP h;refine congrArg AV.bool ?_
  unfold wrdB;exact(QM (by omega)).symm
 .have a:=QP a;rw[qJ]at a;refine congrArg AV.bool ?_
  unfold wrdB;exact(QM (by omega)).symm
 .have h:=Qk h;have a:=Qk a;rw[qJ]at a;refine qk_i (show zLl [45,95,46] (ofNat c)=some (.int .i64 (Lib.indexByte ([45,95,46].map UInt8.ofNat) (UInt8.ofNat c)))from rfl) (Wb ?_)
  refine congrArg AV.bool ?_
  rw[show(decide (Lib.indexByte ([45,95,46].map UInt8.ofNat) (UInt8.ofNat c)>=0))=decide (0<=Lib.indexByte ([45,95,46].map UInt8.ofNat) (UInt8.ofNat c))from rfl,zhS c h8]
  unfold wrdB;exact decide_eq_decide.2 (by omega)
theorem zda(c:Nat):zHb (ofNat c)=some (.bool (namB c)):=by
 refine zf ?_
 rw[zOn]
 repeat' first|refine Wc (λ_=>?_) (λ_=>?_)|refine Wa (λ_=>?_) (λ_=>?_)|refine qk_b (zKE _) ?_|refine Wb ?_
 all_goals simp only[qJ,decide_eq_true_eq,decide_eq_false_iff_not]at *
 all_goals refine congrArg AV.bool ?_
 all_goals unfold namB zAb zt
 all_goals rw[Bool.eq_iff_iff]
 all_goals simp
 all_goals omega
theorem ze3(c:Nat):zCP (ofNat c)=some (.bool (zt c)):=by
 rw[zKE];unfold zt;congr 2;exact decide_eq_decide.2 (by rw[qJ];omega)
def pfx(s:List Nat)(j:Nat)(t:List Nat):Bool:=decide (List.take t.length (List.drop j s)=t)
theorem pfx1{s:List Nat}{j c:Nat}:pfx s j [c]=true↔s[j]?=some c:=by
 unfold pfx;rw[decide_eq_true_iff]
 constructor
 .intro h;have:(List.take 1 (List.drop j s))[0]? = s[j]?:=by rw[List.getElem?_take_of_lt (by omega),List.getElem?_drop];rfl
  rw[←this];have h:List.take 1 (List.drop j s)=[c]:=h;rw[h];rfl
 .intro h;obtain⟨b,a⟩:=QB.1 h;rw[QO b,a];rfl
theorem pfx2{s:List Nat}{j c d:Nat}:pfx s j [c,d]=true↔s[j]?=some c/\s[j+1]?=some d:=by
 unfold pfx;rw[decide_eq_true_iff]
 constructor
 .intro h;have a:(List.take 2 (List.drop j s))[0]? = s[j]?:=by rw[List.getElem?_take_of_lt (by omega),List.getElem?_drop];rfl
  have h1:(List.take 2 (List.drop j s))[1]? = s[j+1]?:=by rw[List.getElem?_take_of_lt (by omega),List.getElem?_drop]
  rw[←a,←h1];have h:List.take 2 (List.drop j s)=[c,d]:=h;rw[h];exact⟨rfl,rfl⟩
 .intro h;obtain⟨a,b⟩:=QB.1 h.1;obtain⟨h1,e⟩:=QB.1 h.2;rw[QO a,QO h1,b,e];rfl
theorem zXZ(t u:List Nat):zHH t u=some (.bool (decide (List.take u.length t=u))):=by
 refine zf ?_
 rw[zO2];have h:zC8 t u=some (.bool (decide (List.take u.length t=u))):=by
  refine zf ?_
  rw[zIN];refine Wc (λh=>We ⟨QU _,h⟩ (Wb ?_)) λh=>Wb ?_
  .rw[zY];rfl
  .have h:¬u.length<=t.length:=λa=>h (Qr.2 a)
   rw[QJ];intro e;have:=congrArg List.length e;rw[Qh]at this;omega
 exact qk_b h (Wb rfl)
section
variable{s:List Nat}(hs:s.length<=65536)(x:FA)(dp n:Int)(l:List AV)
include hs
theorem zDV(i:Nat)(g:i<=s.length):zAr s (ofNat i) dp n x.e x.f l=some (zBW (.qc []) s (ofNat (sk s i)) dp n x l):=by
 have loop:∀(m i:Nat),i<=s.length->s.length-i<m->zDO m s (ofNat i) dp n x.e x.f l=some (zBW (.qc []) s (ofNat (sk s i)) dp n x l):=by
  intro m
  induction m with
  |zero=>intro i _ h;omega
  |succ m j=>
   intro i g k;refine zf ?_
   rw[zMI];refine Wd (λa=>Wp.bd (R:=λc=>c=s[i]) ⟨_,zAS a,rfl⟩ λc hc=>Wa (λh=>?_) λh=>?_) λd=>Wb ?_
   .subst hc;have b:isAt (·==32) s i=true:=by rw[zBx a];exact beq_iff_eq.2 ((zIu (y:=32)).1 h)
    rw[zMH,zd (by omega),j (i+1) a (by omega)]
    refine Wb ?_
    unfold sk;rw[zIG b,show i+1+rn (·==32) s (i+1)=i+(rn (·==32) s (i+1)+1) by omega]
   .subst hc;have b:isAt (·==32) s i=false:=by rw[zBx a];exact beq_eq_false_iff_ne.2 ((zNh (y:=32)).1 h)
    refine Wb ?_
    rw[zNe b]
   .rw[zNe (zC5 d)]
 rw[zOm];exact loop ze i g (by have:=zk (n:=65537) (by omega);omega)
theorem zhT(t:List Nat)(i:Nat)(a:i<=s.length):zp t s (ofNat i) dp n x.e x.f l=some (zBW (.bool (pfx s (sk s i) t)) s (if pfx s (sk s i) t=true then ofNat (sk s i+t.length)else ofNat (sk s i)) dp n x l):=by
 refine zf ?_
 have hk:=zBi a;rw[zQQ];refine adU (zDV hs x dp n l i a) (We ⟨QU _,Qr.2 hk⟩ ?_)
 have e:List.drop (Int.toNat (ofNat (sk s i))) (List.take (Int.toNat (ofNat s.length)) s)=List.drop (sk s i) s:=by
  show List.drop (sk s i) (List.take s.length s)=_
  rw[List.take_length]
 rw[e];refine qk_b (zXZ _ t) (Wa (λh=>Wb ?_) λh=>?_)
 .have h:pfx s (sk s i) t=false:=by
   have h:(!(pfx s (sk s i) t))=true:=h
   simpa using h
  rw[h];rfl
 .have h:pfx s (sk s i) t=true:=by
   have h:(!(pfx s (sk s i) t))=false:=h
   simpa using h
  rw[h,if_pos rfl];have b:sk s i+t.length<=s.length:=by
   have:=congrArg List.length (QP h);rw[Qh,Qp]at this;omega
  rw[zm (by rw[qJ,qJ];omega) (by rw[qJ,qJ];omega)]
  exact Wb rfl
omit hs in
theorem zGC(e f i:Int):zM e f s i dp n x.e x.f l=some (zBW (.qc []) s i dp n (x.fail e f) l):=by
 refine zf ?_
 rw[zO3];refine Wa (λh=>Wb ?_) λh=>Wb ?_
 .have h:x.ok=true:=h;rw[FA.qt h]
 .have h:x.ok=false:=h;rw[FA.qG h]
omit hs in
theorem zPu(f i:Int):zBS f s i dp n x.e x.f l=some (zBW (.qc []) s i dp (wrapx .i64 (n+1)) (if 64<wrapx .i64 (n+1)then x.fail 3 f else x) l):=by
 refine zf ?_
 rw[zO4];refine Wc (λh=>adU (zGC x dp (wrapx .i64 (n+1)) l _ f i) (Wb ?_)) λh=>Wb ?_
 .rw[if_pos h];rfl
 .rw[if_neg h]
omit hs in
theorem zZx(f i:Int)(h:dp+1<=32)(b:0<=dp):zFc f s i dp n x.e x.f l=some (zBW (.bool true) s i (dp+1) n x l):=by
 refine zf ?_
 rw[zLn,zm (by omega) (by omega)]
 exact Wc (λa=>absurd a (by omega)) λ_=>Wb rfl
omit hs in
theorem zWo(f i:Int)(h:dp=32):zFc f s i dp n x.e x.f l=some (zBW (.bool false) s i 33 n (x.fail 3 f) l):=by
 subst h;refine zf ?_
 rw[zLn,show wrapx .i64 ((32:Int)+1)=33 from rfl]
 exact Wc (λ_=>adU (zGC x 33 n l 3 f i) (Wb rfl)) λh=>absurd (by decide) h
omit hs in
theorem zF2(k:Int)(a b:List Nat)(m p q i:Int)(h:x.ok=false):zBq k a b m p q s i dp n x.e x.f l=some (zBW (.int .i64 (Int.negSucc 0)) s i dp n x l):=by
 refine zf ?_
 rw[zKa];refine Wa (λ_=>Wb rfl) λd=>?_
 have d:(!x.ok)=false:=by
  have g:(match x.ok with|true=>false|false=>true)=false:=by
   revert d
   unfold FA.ok;cases (x.e==0&&x.f==0)<;>intro d<;>first|rfl|exact d
  cases hx:x.ok with
  |true=>rfl
  |false=>rw[hx]at g;cases g
 rw[h]at d;cases d
omit hs in
theorem zGW(k:Int)(a b:List Nat)(m p q i:Int)(h:x.ok=true)(d:l.length<=64):zBq k a b m p q s i dp n x.e x.f l=some (zBW (.int .i64 (ofNat l.length)) s i dp n x (l++[nd6 k a b m p q])):=by
 have:=FA.zero h;subst this;refine zf ?_
 rw[zKa];refine Wf rfl<|We ?_ (Wb ?_)
 .show(l.length+1)*64<=zg/\l.length+1<=zg
  unfold zg;omega
 .show zBW (.int .i64 (wrapx .i64 (ofNat (l++[nd6 k a b m p q]).length-1))) s i dp n ⟨0,0⟩ (l++[nd6 k a b m p q])=_
  rw[QC];have e:wrapx .i64 (ofNat (l.length+[nd6 k a b m p q].length)-1)=ofNat l.length:=zA8 (i:=l.length+1) (by omega) (by omega)
  rw[e]
theorem zar(m:Nat)(hm:m<=1000)(i:Nat)(p:i<=s.length):zCf (ofNat m) s (ofNat i) dp n x.e x.f l=some (zBW (.str (cutS s i (i+min m (rn namB s i)))) s (ofNat (i+min m (rn namB s i))) dp n x l):=by
 have y:=zFZ namB s i p;have loop:∀(w t:Nat),t<=min m (rn namB s i)->s.length-(i+t)<w->zAw w (ofNat m) (ofNat i) s (ofNat (i+t)) dp n x.e x.f l=some (zBW (.str (cutS s i (i+min m (rn namB s i)))) s (ofNat (i+min m (rn namB s i))) dp n x l):=by
  intro w
  induction w with
  |zero=>intro t _ h;omega
  |succ w q=>
   intro t r u;refine zf ?_
   have g:t=min m (rn namB s i)->Wp (gd (decide (0<=ofNat i/\ofNat i<=ofNat (i+t)/\ofNat (i+t)<=ofNat s.length)) (some (AV.str (List.drop (Int.toNat (ofNat i)) (List.take (Int.toNat (ofNat (i+t))) s)),[(0,HO.cells false [.str s,.int .i64 (ofNat (i+t)),.int .i64 dp,.int .i64 n,AV.sym 0,.int .i64 x.e,.int .i64 x.f])],[(0,VI.vec 6 l)]))) λv=>v=zBW (.str (cutS s i (i+min m (rn namB s i)))) s (ofNat (i+min m (rn namB s i))) dp n x l:=λh=>by
    refine We ⟨QU _,Qr.2 (by omega),Qr.2 (by omega)⟩ (Wb ?_)
    rw[←h];rfl
   have a:isAt namB s (i+t)=false->t=min m (rn namB s i):=λh=>by
    by_cases k:t<rn namB s i
    .rw[zMh t i k]at h;cases h
    .omega
   rw[zGN];refine Wd (λb=>Wc (λd=>Wp.bd (R:=λc=>c=s[i+t]) ⟨_,zAS b,rfl⟩ λc hc=>qk_b (zda c) (Wa (λh=>?_) λh=>?_)) λd=>g ?_) λj=>g (a (zC5 j))
   .subst hc;rw[zm (by rw[qJ,qJ];omega) (by rw[qJ,qJ];omega),qJ,qJ,qJ]at d
    rw[zGM,zd (by omega),show i+t+1=i+(t+1) by omega,q (t+1) ?_ (by omega)]
    .exact Wb rfl
    .have:t≠rn namB s i:=λe=>by
      have:=zNU namB s _ i (QA _);rw[←e,zBx b,h]at this;cases this
     omega
   .subst hc;exact g (a (by rw[zBx b];exact h))
   .rw[zm (by rw[qJ,qJ];omega) (by rw[qJ,qJ];omega),qJ,qJ,qJ]at d
    omega
 rw[zHw];exact loop ze 0 (QI _) (by have:=zk (n:=65537) (by omega);omega)
theorem zas(m:Nat)(hm:m<=1000)(h8:∀c∈s,c<256)(i:Nat)(p:i<=s.length):zDL (ofNat m) s (ofNat i) dp n x.e x.f l=some (zBW (.str (cutS s i (i+min m (rn wrdB s i)))) s (ofNat (i+min m (rn wrdB s i))) dp n x l):=by
 have y:=zFZ wrdB s i p;have loop:∀(w t:Nat),t<=min m (rn wrdB s i)->s.length-(i+t)<w->zBD w (ofNat m) (ofNat i) s (ofNat (i+t)) dp n x.e x.f l=some (zBW (.str (cutS s i (i+min m (rn wrdB s i)))) s (ofNat (i+min m (rn wrdB s i))) dp n x l):=by
  intro w
  induction w with
  |zero=>intro t _ h;omega
  |succ w q=>
   intro t r u;refine zf ?_
   have g:t=min m (rn wrdB s i)->Wp (gd (decide (0<=ofNat i/\ofNat i<=ofNat (i+t)/\ofNat (i+t)<=ofNat s.length)) (some (AV.str (List.drop (Int.toNat (ofNat i)) (List.take (Int.toNat (ofNat (i+t))) s)),[(0,HO.cells false [.str s,.int .i64 (ofNat (i+t)),.int .i64 dp,.int .i64 n,AV.sym 0,.int .i64 x.e,.int .i64 x.f])],[(0,VI.vec 6 l)]))) λv=>v=zBW (.str (cutS s i (i+min m (rn wrdB s i)))) s (ofNat (i+min m (rn wrdB s i))) dp n x l:=λh=>by
    refine We ⟨QU _,Qr.2 (by omega),Qr.2 (by omega)⟩ (Wb ?_)
    rw[←h];rfl
   have b:isAt wrdB s (i+t)=false->t=min m (rn wrdB s i):=λh=>by
    by_cases k:t<rn wrdB s i
    .rw[zMh t i k]at h;cases h
    .omega
   rw[zIP];refine Wd (λa=>Wc (λd=>Wp.bd (R:=λc=>c=s[i+t]) ⟨_,zAS a,rfl⟩ λc hc=>qk_b (zRG c (by subst hc;exact h8 _ (QR a))) (Wa (λh=>?_) λh=>?_)) λd=>g ?_) λj=>g (b (zC5 j))
   .subst hc;rw[zm (by rw[qJ,qJ];omega) (by rw[qJ,qJ];omega),qJ,qJ,qJ]at d
    rw[zIO,zd (by omega),show i+t+1=i+(t+1) by omega,q (t+1) ?_ (by omega)]
    .exact Wb rfl
    .have:t≠rn wrdB s i:=λe=>by
      have:=zNU wrdB s _ i (QA _);rw[←e,zBx a,h]at this;cases this
     omega
   .subst hc;exact g (b (by rw[zBx a];exact h))
   .rw[zm (by rw[qJ,qJ];omega) (by rw[qJ,qJ];omega),qJ,qJ,qJ]at d
    omega
 rw[zJK];exact loop ze 0 (QI _) (by have:=zk (n:=65537) (by omega);omega)
theorem zYS(m:Nat)(hm:m<=1000)(i:Nat)(p:i<=s.length):zDW (ofNat m) s (ofNat i) dp n x.e x.f l=some (zBW (.str (cutS s i (i+min m (rn zt s i)))) s (ofNat (i+min m (rn zt s i))) dp n x l):=by
 have y:=zFZ zt s i p;have loop:∀(w t:Nat),t<=min m (rn zt s i)->s.length-(i+t)<w->zBM w (ofNat m) (ofNat i) s (ofNat (i+t)) dp n x.e x.f l=some (zBW (.str (cutS s i (i+min m (rn zt s i)))) s (ofNat (i+min m (rn zt s i))) dp n x l):=by
  intro w
  induction w with
  |zero=>intro t _ h;omega
  |succ w q=>
   intro t r u;refine zf ?_
   have g:t=min m (rn zt s i)->Wp (gd (decide (0<=ofNat i/\ofNat i<=ofNat (i+t)/\ofNat (i+t)<=ofNat s.length)) (some (AV.str (List.drop (Int.toNat (ofNat i)) (List.take (Int.toNat (ofNat (i+t))) s)),[(0,HO.cells false [.str s,.int .i64 (ofNat (i+t)),.int .i64 dp,.int .i64 n,AV.sym 0,.int .i64 x.e,.int .i64 x.f])],[(0,VI.vec 6 l)]))) λv=>v=zBW (.str (cutS s i (i+min m (rn zt s i)))) s (ofNat (i+min m (rn zt s i))) dp n x l:=λh=>by
    refine We ⟨QU _,Qr.2 (by omega),Qr.2 (by omega)⟩ (Wb ?_)
    rw[←h];rfl
   have a:isAt zt s (i+t)=false->t=min m (rn zt s i):=λh=>by
    by_cases k:t<rn zt s i
    .rw[zMh t i k]at h;cases h
    .omega
   rw[zI3];refine Wd (λb=>Wc (λd=>Wp.bd (R:=λc=>c=s[i+t]) ⟨_,zAS b,rfl⟩ λc hc=>qk_b (ze3 c) (Wa (λh=>?_) λh=>?_)) λd=>g ?_) λj=>g (a (zC5 j))
   .subst hc;rw[zm (by rw[qJ,qJ];omega) (by rw[qJ,qJ];omega),qJ,qJ,qJ]at d
    rw[zI2,zd (by omega),show i+t+1=i+(t+1) by omega,q (t+1) ?_ (by omega)]
    .exact Wb rfl
    .have:t≠rn zt s i:=λe=>by
      have:=zNU zt s _ i (QA _);rw[←e,zBx b,h]at this;cases this
     omega
   .subst hc;exact g (a (by rw[zBx b];exact h))
   .rw[zm (by rw[qJ,qJ];omega) (by rw[qJ,qJ];omega),qJ,qJ,qJ]at d
    omega
 rw[zKb];exact loop ze 0 (QI _) (by have:=zk (n:=65537) (by omega);omega)
theorem zf2(h8:∀c∈s,c<256)(i:Nat)(a:i<=s.length):zCg s (ofNat i) dp n x.e x.f l=some (zBW (.str (cutS s (sk s i) (sk s i+min 32 (rn wrdB s (sk s i))))) s (ofNat (sk s i+min 32 (rn wrdB s (sk s i)))) dp n (if rn wrdB s (sk s i)=0 then x.fail 5 (ofNat (sk s i))else x) l):=by
 refine zf ?_
 have hk:=zBi a;have d:=zFZ wrdB s (sk s i) hk;rw[zPA];refine adU (zDV hs x dp n l i a) (adS (zas hs x dp n l 32 (by decide) h8 (sk s i) hk) ?_)
 have b:zo (cutS s (sk s i) (sk s i+min 32 (rn wrdB s (sk s i)))) []=decide (rn wrdB s (sk s i)=0):=by
  rw[zY];refine decide_eq_decide.2 ⟨λh=>?_,λh=>?_⟩
  .have:=zEz (s:=s) (i:=sk s i) (k:=min 32 (rn wrdB s (sk s i))) (by omega)
   rw[h]at this;have:0=min 32 (rn wrdB s (sk s i)):=this;omega
  .exact List.eq_nil_of_length_eq_zero (by rw[zEz (by omega)];omega)
 rw[b];refine Wc (λh=>adU (zGC x dp n l 5 _ _) (Wb ?_)) λh=>Wb ?_
 .rw[if_pos h,h];rfl
 .rw[if_neg h]
omit hs in
theorem pum(M:Nat)(d:999999999999<=M):∀(w:List Nat)(a:Nat),(∀c∈w,zt c=true)->w.foldl (λx c=>10*x+(c-48)) a<=999999999999->Lib.parseUintM M a (w.map UInt8.ofNat)=.ok (w.foldl (λx c=>10*x+(c-48)) a)
 |[],a,_,_=>rfl
 |c::r,a,h,b=>by
  have hc:=QP (h c (.head _));have b:r.foldl (λx c=>10*x+(c-48)) (10*a+(c-48))<=999999999999:=b
  have g:=zVt r (10*a+(c-48));have e:(UInt8.ofNat c).toNat=c:=by rw[UInt8.toNat_ofNat'];omega
  have f:a*10+(c-48)=10*a+(c-48):=by omega
  rw[Qe,Lib.parseUintM,e,if_pos hc,if_neg (by omega),f,if_neg (by omega)]
  exact pum M d r _ (λc hc=>h c (.tail _ hc)) b
omit hs in
theorem zdb(w:List Nat)(j:0<w.length)(h:w.length<=12)(a:∀c∈w,zt c=true):∃v,zEc w (ofNat 10) (ofNat 64)=some (.qc [.int .i64 (ofNat (zFO w)),v]):=by
 have e:Nat.ble w.length 281474976710656=true:=by rw[Qt];omega
 have k:(Nat.ble w.length 281474976710656&&(ofNat 10==10&&ofNat 64==64))=true:=by rw[e];rfl
 have g:=zVr a h;have f:Lib.parseIntB 64 (w.map UInt8.ofNat)=.ok (ofNat (zFO w)):=by
  cases w with
  |nil=>cases j
  |cons c r=>
   have hc:=QP (a c (.head _));have b:(UInt8.ofNat c).toNat=c:=by rw[UInt8.toNat_ofNat'];omega
   have d:Lib.parseUintB 64 ((c::r).map UInt8.ofNat)=.ok (zFO (c::r)):=by
    unfold Lib.parseUintB;rw[if_neg (by simp)]
    exact pum _ (by decide) (c::r) 0 a g
   rw[Qe]at d⊢;rw[Lib.parseIntB_plain 64 _ _ (by rw[b];omega) (by rw[b];omega),d]
   show(if 2 ^ (64-1)<=zFO (c::r)then Lib.NumEnd.range else Lib.NumEnd.ok ((zFO (c::r):Nat):Int))=_
   rw[if_neg (by omega)]
   rfl
 unfold zEc zEL zUv;simp only[k,f];exact⟨_,rfl⟩
omit hs in
theorem zX0(w:List Nat)(e:w.length<=12)(d:∀c∈w,zt c=true):∃y,zEC w=some (.int .i64 y)/\(0<w.length->y=ofNat (zFO w)):=by
 by_cases b:0<w.length
 .obtain⟨v,a⟩:=zdb w b e d;refine⟨_,zf ?_,λ_=>rfl⟩
  rw[zN6];exact zZp a (Wb rfl)
 .obtain⟨y,v,a,_⟩:=zXS w (by omega)
  refine⟨y,zf ?_,λh=>absurd h b⟩
  rw[zN6];exact zZp a (Wb rfl)
theorem zdc(i:Nat)(g:i<=s.length):∃y,zBE s (ofNat i) dp n x.e x.f l=some (zBW (.int .i64 y) s (ofNat (sk s i+min 12 (rn zt s (sk s i)))) dp n (if rn zt s (sk s i)=0 then x.fail 5 (ofNat (sk s i))else x) l)/\(rn zt s (sk s i)≠0->y=ofNat (zFO (cutS s (sk s i) (sk s i+min 12 (rn zt s (sk s i)))))):=by
 have hk:=zBi g;have p:=zFZ zt s (sk s i) hk;have a:=zEz (s:=s) (i:=sk s i) (k:=min 12 (rn zt s (sk s i))) (by omega)
 obtain⟨y,d,b⟩:=zX0 (cutS s (sk s i) (sk s i+min 12 (rn zt s (sk s i)))) (by rw[a];omega) (zLx (by omega) (Nat.min_le_right _ _))
 refine⟨y,zf ?_,λh=>b (by rw[a];omega)⟩
 rw[zOo];refine adU (zDV hs x dp n l i g) (adS (zYS hs x dp n l 12 (by decide) (sk s i) hk) ?_)
 have j:zo (cutS s (sk s i) (sk s i+min 12 (rn zt s (sk s i)))) []=decide (rn zt s (sk s i)=0):=by
  rw[zY];refine decide_eq_decide.2 ⟨λh=>?_,λh=>?_⟩
  .rw[h]at a;have:0=min 12 (rn zt s (sk s i)):=a;omega
  .exact List.eq_nil_of_length_eq_zero (by rw[a];omega)
 rw[j];refine Wc (λh=>adU (zGC x dp n l 5 _ _) (qk_i d (Wb ?_))) λh=>qk_i d (Wb ?_)
 .rw[if_pos h,h];rfl
 .rw[if_neg h]
end
def zEI(s:List Nat)(x:FA)(v:AV×Heap×Vecs):Prop:=∃(y:Int) (i:Nat) (dp n:Int) (l:List AV),i<=s.length/\v=zBW (.int .i64 y) s (ofNat i) dp n x l
def zgM(s:List Nat)(l:List AV)(dp:Int)(n0:Nat)(f:Int)(v:AV×Heap×Vecs):Prop:=∃(y:Int) (i a:Nat) (b:List AV),f=ofNat i/\isAt wrdB s i=true/\a<=64/\b.length+n0<=l.length+a/\v=zBW (.int .i64 y) s (ofNat i) dp (ofNat a) ⟨0,0⟩ b
def zEm(s:List Nat)(l:List AV)(dp:Int)(n0:Nat):RE (Nat×Nat×RT)->AV×Heap×Vecs->Prop
 |.ok (i,n,t),v=>v=zBW (.int .i64 (ofNat (l.length+t.size-1))) s (ofNat i) dp (ofNat n) ⟨0,0⟩ (l++t.fl l.length)
 |.error (e,f),v=>((FA.mk e f).ok=false/\zEI s ⟨e,f⟩ v)\/(e=5/\zgM s l dp n0 f v)
section
variable{s:List Nat}{l:List AV}{dp:Int}
theorem zNi{i:Nat}(h:isAt wrdB s i=true):isAt (·==32) s i=false:=by
 unfold isAt at h⊢;split at h
 .rename_i c _;have:=QP h;exact beq_eq_false_iff_ne.2 (by omega)
 .cases h
theorem zTt{i c:Nat}(h:isAt wrdB s i=true)(hc:wrdB c=false):pfx s i [c]=false:=by
 cases hp:pfx s i [c]with
 |false=>rfl
 |true=>
  have:=pfx1.1 hp;unfold isAt at h;rw[this]at h;have h:wrdB c=true:=h;rw[hc]at h;cases h
variable(hs:s.length<=65536)
include hs
def zVM(s:List Nat)(l:List AV)(dp:Int)(n:Nat)(x:FA)(r:RE (Nat×Nat×RT))(v:AV×Heap×Vecs):Prop:=(x.ok=false->zEI s x v)/\(x.ok=true->zEm s l dp n r v)
theorem zEA{x:FA}(h:x.ok=false)(k:Int)(a b:List Nat)(m p q:Int)(i:Nat)(d:i<=s.length)(n:Int):Wp (zv s (ofNat i) dp n x.e x.f k a b m p q l) (zEI s x):=by
 rw[zIk];exact adI (zF2 x dp n l k a b m p q _ h) (Wb ⟨_,_,_,_,_,d,rfl⟩)
theorem zNY(k:Int)(a b:List Nat)(m p q:Int)(i n:Int)(d:l.length<=64):Wp (zv s i dp n 0 0 k a b m p q l) λv=>v=zBW (.int .i64 (ofNat l.length)) s i dp n ⟨0,0⟩ (l++[nd6 k a b m p q]):=by
 rw[zIk];exact adI (zGW ⟨0,0⟩ dp n l k a b m p q i rfl d) (Wb rfl)
theorem zZy(h8:∀c∈s,c<256)(x:FA)(j n:Nat)(m:Int)(k:Int)(a:List Nat)(t:j<=s.length)(hm:x.ok=true->m=ofNat (n+1))(q:n+1<=64\/x.ok=false)(y:l.length<=n)(p:l.length<=64):
  Wp (dD true [.v .s,.hc 0 false 7,.v .s,.v (.i .i64),.v (.i .i64),.v (.i .i64),.v (.c (AV.sym 0)),.v (.i .i64),.v (.i .i64),.vec 0 6] (zCg s (ofNat j) dp m x.e x.f l) λu w n15 n16 n17 n18 n19 r=>zv w n15 n16 n17 n18 n19 k a u (ofNat 0) (Int.negSucc 0) (Int.negSucc 0) r) (zVM s l dp n x (zNf s j n k a)):=by
 have hk:=zBi t;have z:=zFZ wrdB s (sk s j) hk;refine adS (zf2 hs x dp m l h8 j t) ?_
 cases hx:x.ok with
 |false=>
  rw[FA.qG hx,ite_self];exact(zEA hs hx k a _ _ _ _ _ (by omega) m).mono λv d=>⟨λ_=>d,λh=>by rw[hx]at h;cases h⟩
 |true=>
  have:=FA.zero hx;subst this;have hm:=hm hx;subst hm;have q:=q.resolve_right (by rw[hx];decide)
  unfold zNf zRC;by_cases g:rn wrdB s (sk s j)=0
  .rw[if_pos g,if_pos g,FA.qt hx];exact(zEA hs (fa5 _) k a _ _ _ _ _ (by omega) _).mono λv d=>⟨λh=>(by cases h),λ_=>.inl ⟨fa5 _,d⟩⟩
  .rw[if_neg g,if_neg g];refine(zNY hs k a _ _ _ _ _ _ p).mono λv d=>⟨λh=>(by cases h),λ_=>?_⟩
   by_cases b:32<rn wrdB s (sk s j)
   .rw[if_pos b];refine .inr ⟨rfl,_,sk s j+32,n+1,_,rfl,zMh 32 _ b,q,?_,d.trans (by rw[show min 32 (rn wrdB s (sk s j))=32 by omega])⟩
    rw[QC];show l.length+1+n<=_
    omega
   .rw[if_neg b];show v=_
    rw[zIg,d,show min 32 (rn wrdB s (sk s j))=rn wrdB s (sk s j) by omega]
    rfl
theorem zZz(x:FA)(j n:Nat)(m:Int)(k:Int)(a:List Nat)(w:j<=s.length)(hm:x.ok=true->m=ofNat (n+1))(t:n+1<=64\/x.ok=false)(C:l.length<=n)(q:l.length<=64):
  Wp (dD true [.v (.i .i64),.hc 0 false 7,.v .s,.v (.i .i64),.v (.i .i64),.v (.i .i64),.v (.c (AV.sym 0)),.v (.i .i64),.v (.i .i64),.vec 0 6] (zBE s (ofNat j) dp m x.e x.f l) λn20 B n21 n22 n23 n24 n25 u=>zv B n21 n22 n23 n24 n25 k a [] n20 (Int.negSucc 0) (Int.negSucc 0) u) (zVM s l dp n x (zNg s j n k a)):=by
 have hk:=zBi w;have D:=zFZ zt s (sk s j) hk;obtain⟨y,A,p⟩:=zdc hs x dp m l j w;refine adI A ?_
 cases hx:x.ok with
 |false=>
  rw[FA.qG hx,ite_self];exact(zEA hs hx k a _ _ _ _ _ (by omega) m).mono λv b=>⟨λ_=>b,λh=>by rw[hx]at h;cases h⟩
 |true=>
  have:=FA.zero hx;subst this;have hm:=hm hx;subst hm;have t:=t.resolve_right (by rw[hx];decide)
  unfold zNg zPo;by_cases g:rn zt s (sk s j)=0
  .rw[if_pos g,FA.qt hx];have z:sk s j+min 12 (rn zt s (sk s j))=sk s j:=by omega
   have key:∀v,zEI s ⟨5,ofNat (sk s j)⟩ v->zVM s l dp n ⟨0,0⟩ (match(if isAt wrdB s (sk s j+min 12 (rn zt s (sk s j)))=true then(.error (5,ofNat (sk s j+min 12 (rn zt s (sk s j)))):RE (Nat×Int))else if rn zt s (sk s j)=0 then .error (5,ofNat (sk s j))else .ok (sk s j+min 12 (rn zt s (sk s j)),ofNat (zFO (cutS s (sk s j) (sk s j+min 12 (rn zt s (sk s j)))))))with|.error e=>.error e|.ok (j,x)=>.ok (j,n+1,.leaf k a [] x)) v:=λv b=>by
    refine⟨λh=>(by cases h),λ_=>?_⟩
    rw[if_pos g,z];split
    .rename_i e d;have d:e=(5,ofNat (sk s j)):=by
      split at d<;>cases d<;>rfl
     subst d;exact .inl ⟨fa5 _,b⟩
    .rename_i d;split at d<;>cases d
   exact(zEA hs (fa5 _) k a _ _ _ _ _ (by omega) _).mono λv b=>key v b
  .rw[if_neg g,if_neg g];refine(zNY hs k a _ _ _ _ _ _ q).mono λv b=>⟨λh=>(by cases h),λ_=>?_⟩
   by_cases r:isAt wrdB s (sk s j+min 12 (rn zt s (sk s j)))=true
   .rw[if_pos r];refine .inr ⟨rfl,_,_,n+1,_,rfl,r,t,?_,b⟩
    rw[QC];show l.length+1+n<=_
    omega
   .rw[if_neg r,p g]at *;show v=_
    rw[zIg,b];rfl
theorem zOM(x:FA)(b:Bool)(j n:Nat)(m:Int)(a:List Nat)(p:j<=s.length)(hm:x.ok=true->m=ofNat (n+1))(q:n+1<=64\/x.ok=false)(k:l.length<=64)(r:RE (Nat×Nat×RT))(g:(b=true->r=.error (5,ofNat j))/\(b=false->r=.ok (j,n+1,.leaf 6 a [] 0))):
  Wp (zAD b s (ofNat j) dp m x.e x.f (ofNat 6) a [] (ofNat 0) (Int.negSucc 0) (Int.negSucc 0) l) (zVM s l dp n x r):=by
 rw[zN7];refine Wa (λh=>adU (zGC x dp m l 5 _ _) ?_) λh=>?_
 .have g:=g.1 h;subst g;cases hx:x.ok with
  |false=>
   rw[FA.qG hx];exact(zEA hs hx _ a _ _ _ _ _ p m).mono λv d=>⟨λ_=>d,λh=>by rw[hx]at h;cases h⟩
  |true=>
   rw[FA.qt hx];exact(zEA hs (fa5 _) _ a _ _ _ _ _ p m).mono λv d=>⟨λh=>(by rw[hx]at h;cases h),λ_=>.inl ⟨fa5 _,d⟩⟩
 .have g:=g.2 h;subst g;cases hx:x.ok with
  |false=>exact(zEA hs hx _ a _ _ _ _ _ p m).mono λv d=>⟨λ_=>d,λh=>by rw[hx]at h;cases h⟩
  |true=>
   have:=FA.zero hx;subst this;have hm:=hm hx;subst hm;refine(zNY hs _ a _ _ _ _ _ _ k).mono λv d=>⟨λh=>(by cases h),λ_=>?_⟩
   show v=_
   rw[zIg,d];rfl
theorem zDg(x:FA)(t:List Nat)(i:Nat)(a:i<=s.length)(m:Int){β:Type}{P:β->Prop}{wk:Bool}{f:Bool->List Nat->Int->Int->Int->Int->Int->List AV->Option β}
  (h1:pfx s (sk s i) t=true->sk s i+t.length<=s.length->Wp (f true s (ofNat (sk s i+t.length)) dp m x.e x.f l) P) (g:pfx s (sk s i) t=false->Wp (f false s (ofNat (sk s i)) dp m x.e x.f l) P):
  Wp (dD wk [.v .b,.hc 0 false 7,.v .s,.v (.i .i64),.v (.i .i64),.v (.i .i64),.v (.c (AV.sym 0)),.v (.i .i64),.v (.i .i64),.vec 0 6] (zp t s (ofNat i) dp m x.e x.f l) f) P:=by
 refine adB (zhT hs x dp m l t i a) ?_
 cases hp:pfx s (sk s i) t with
 |true=>
  have d:sk s i+t.length<=s.length:=by
   have:=congrArg List.length (QP hp);rw[Qh,Qp]at this;have:=zBi a;omega
  exact h1 hp d
 |false=>exact g hp
theorem npf1{i c:Nat}(h:pfx s i [c]=false):¬s[i]?=some c:=λa=>by rw[pfx1.2 a]at h;cases h
theorem npf2{i c d:Nat}(h:pfx s i [c,d]=false):¬(s[i]?=some c/\s[i+1]?=some d):=λa=>by rw[pfx2.2 a]at h;cases h
theorem zbY(h8:∀c∈s,c<256)(i0:Int)(i n:Nat)(a:List Nat)(K:i<=s.length)(t:n<=64)(G:l.length<=n):
  Wp (zGF i0 a s (ofNat i) dp (ofNat n) 0 0 l) (zEm s l dp n (if 64<n+1 then .error (3,i0)else zF0 s (sk s i) n a)):=by
 rw[zN8];refine adU (zPu ⟨0,0⟩ dp (ofNat n) l i0 _) ?_
 rw[zd (by omega)]
 have hk:=zBi K;have g:l.length<=64:=by omega
 have key:∀x:FA,(x.ok=true->ofNat (n+1)=ofNat (n+1))->(n+1<=64\/x.ok=false)->(∀r v,zVM s l dp n x r v->zEm s l dp n (if 64<n+1 then .error (3,i0)else r) v)->Wp (dD true [.v .b,.hc 0 false 7,.v .s,.v (.i .i64),.v (.i .i64),.v (.i .i64),.v (.c (AV.sym 0)),.v (.i .i64),.v (.i .i64),.vec 0 6] (zp [33,61] s (ofNat i) dp (ofNat (n+1)) x.e x.f l) (λS L n10 n11 n12 n13 n14 A=>br S (dD true [.v .s,.hc 0 false 7,.v .s,.v (.i .i64),.v (.i .i64),.v (.i .i64),.v (.c (AV.sym 0)),.v (.i .i64),.v (.i .i64),.vec 0 6] (zCg L n10 n11 n12 n13 n14 A) λF y n15 n16 n17 n18 n19 k=>zv y n15 n16 n17 n18 n19 (ofNat 3) a F (ofNat 0) (Int.negSucc 0) (Int.negSucc 0) k) (dD true [.v .b,.hc 0 false 7,.v .s,.v (.i .i64),.v (.i .i64),.v (.i .i64),.v (.c (AV.sym 0)),.v (.i .i64),.v (.i .i64),.vec 0 6] (zp [62,61] L n10 n11 n12 n13 n14 A) λb3 F n15 n16 n17 n18 n19 k=>br b3 (dD true [.v (.i .i64),.hc 0 false 7,.v .s,.v (.i .i64),.v (.i .i64),.v (.i .i64),.v (.c (AV.sym 0)),.v (.i .i64),.v (.i .i64),.vec 0 6] (zBE F n15 n16 n17 n18 n19 k) λn20 y n21 n22 n23 n24 n25 p=>zv y n21 n22 n23 n24 n25 (ofNat 4) a [] n20 (Int.negSucc 0) (Int.negSucc 0) p) (dD true [.v .b,.hc 0 false 7,.v .s,.v (.i .i64),.v (.i .i64),.v (.i .i64),.v (.c (AV.sym 0)),.v (.i .i64),.v (.i .i64),.vec 0 6] (zp [60,61] F n15 n16 n17 n18 n19 k) λT y n20 n21 n22 n23 n24 p=>br T (dD true [.v (.i .i64),.hc 0 false 7,.v .s,.v (.i .i64),.v (.i .i64),.v (.i .i64),.v (.c (AV.sym 0)),.v (.i .i64),.v (.i .i64),.vec 0 6] (zBE y n20 n21 n22 n23 n24 p) λn25 D n26 n27 n28 n29 n30 j=>zv D n26 n27 n28 n29 n30 (ofNat 5) a [] n25 (Int.negSucc 0) (Int.negSucc 0) j) (dD true [.v .b,.hc 0 false 7,.v .s,.v (.i .i64),.v (.i .i64),.v (.i .i64),.v (.c (AV.sym 0)),.v (.i .i64),.v (.i .i64),.vec 0 6] (zp [61] y n20 n21 n22 n23 n24 p) λM D n25 n26 n27 n28 n29 j=>br M (dD true [.v .s,.hc 0 false 7,.v .s,.v (.i .i64),.v (.i .i64),.v (.i .i64),.v (.c (AV.sym 0)),.v (.i .i64),.v (.i .i64),.vec 0 6] (zCg D n25 n26 n27 n28 n29 j) λE H n30 n31 n32 n33 n34 q=>zv H n30 n31 n32 n33 n34 (ofNat 2) a E (ofNat 0) (Int.negSucc 0) (Int.negSucc 0) q) (dD true [.v .b,.hc 0 false 7,.v .s,.v (.i .i64),.v (.i .i64),.v (.i .i64),.v (.c (AV.sym 0)),.v (.i .i64),.v (.i .i64),.vec 0 6] (zp [33] D n25 n26 n27 n28 n29 j) λO E n30 n31 n32 n33 n34 q=>br O (zAD true E n30 n31 n32 n33 n34 (ofNat 6) a [] (ofNat 0) (Int.negSucc 0) (Int.negSucc 0) q) (dD true [.v .b,.hc 0 false 7,.v .s,.v (.i .i64),.v (.i .i64),.v (.i .i64),.v (.c (AV.sym 0)),.v (.i .i64),.v (.i .i64),.vec 0 6] (zp [62] E n30 n31 n32 n33 n34 q) λR H n35 n36 n37 n38 n39 z=>br R (zAD true H n35 n36 n37 n38 n39 (ofNat 6) a [] (ofNat 0) (Int.negSucc 0) (Int.negSucc 0) z) (dD true [.v .b,.hc 0 false 7,.v .s,.v (.i .i64),.v (.i .i64),.v (.i .i64),.v (.c (AV.sym 0)),.v (.i .i64),.v (.i .i64),.vec 0 6] (zp [60] H n35 n36 n37 n38 n39 z) λU Q n40 n41 n42 n43 n44 J=>zAD U Q n40 n41 n42 n43 n44 (ofNat 6) a [] (ofNat 0) (Int.negSucc 0) (Int.negSucc 0) J)))))))) (zEm s l dp n (if 64<n+1 then .error (3,i0)else zF0 s (sk s i) n a)):=λx w t post=>by
  have u:∀{r},zF0 s (sk s i) n a=r->∀v,zVM s l dp n x r v->zEm s l dp n (if 64<n+1 then .error (3,i0)else zF0 s (sk s i) n a) v:=λh v C=>by rw[h];exact post _ v C
  refine zDg hs x [33,61] i K _ (λh d=>Wt rfl (?_)) λn1=>Wf rfl<|?_
  .have h:=pfx2.1 h;refine(zZy hs h8 x (sk s i+2) n _ 3 a d w t G g).mono (u ?_)
   unfold zF0;rw[if_neg (by rw[h.1];decide),if_pos h]
  refine zDg hs x [62,61] (sk s i) hk _ (λh d=>Wt rfl (?_)) λn2=>Wf rfl<|?_
  .rw[zCB]at h d⊢;have h:=pfx2.1 h;refine(zZz hs x (sk s i+2) n _ 4 a d w t G g).mono (u ?_)
   unfold zF0;rw[if_neg (by rw[h.1];decide),if_neg (npf2 hs n1),if_pos h]
  rw[zCB]at n2⊢;refine zDg hs x [60,61] (sk s i) hk _ (λh d=>Wt rfl (?_)) λn3=>Wf rfl<|?_
  .rw[zCB]at h d⊢;have h:=pfx2.1 h;refine(zZz hs x (sk s i+2) n _ 5 a d w t G g).mono (u ?_)
   unfold zF0;rw[if_neg (by rw[h.1];decide),if_neg (npf2 hs n1),if_neg (npf2 hs n2),if_pos h]
  rw[zCB]at n3⊢;refine zDg hs x [61] (sk s i) hk _ (λh d=>Wt rfl (?_)) λn4=>Wf rfl<|?_
  .rw[zCB]at h d⊢;have h:=pfx1.1 h;refine(zZy hs h8 x (sk s i+1) n _ 2 a d w t G g).mono (u ?_)
   unfold zF0;rw[if_pos h]
  rw[zCB]at n4⊢;have I:zF0 s (sk s i) n a=if s[sk s i]?=some 33\/s[sk s i]?=some 62\/s[sk s i]?=some 60 then .error (5,ofNat (sk s i+1))else .ok (sk s i,n+1,.leaf 6 a [] 0):=by
   unfold zF0;rw[if_neg (npf1 hs n4),if_neg (npf2 hs n1),if_neg (npf2 hs n2),if_neg (npf2 hs n3)]
  refine zDg hs x [33] (sk s i) hk _ (λh d=>Wt rfl (?_)) λn5=>Wf rfl<|?_
  .rw[zCB]at h d⊢;have h:=pfx1.1 h;exact(zOM hs x true (sk s i+1) n _ a d w t g _ ⟨λ_=>by rw[I,if_pos (.inl h)],λh=>by cases h⟩).mono (u rfl)
  rw[zCB]at n5⊢;refine zDg hs x [62] (sk s i) hk _ (λh d=>Wt rfl (?_)) λn6=>Wf rfl<|?_
  .rw[zCB]at h d⊢;have h:=pfx1.1 h;exact(zOM hs x true (sk s i+1) n _ a d w t g _ ⟨λ_=>by rw[I,if_pos (.inr (.inl h))],λh=>by cases h⟩).mono (u rfl)
  rw[zCB]at n6⊢;refine zDg hs x [60] (sk s i) hk _ (λh d=>?_) λn7=>?_
  .rw[zCB]at h d⊢;have h:=pfx1.1 h;exact(zOM hs x true (sk s i+1) n _ a d w t g _ ⟨λ_=>by rw[I,if_pos (.inr (.inr h))],λh=>by cases h⟩).mono (u rfl)
  .rw[zCB]at n7⊢;exact(zOM hs x false (sk s i) n _ a hk w t g _ ⟨λh=>(by cases h),λ_=>by rw[I,if_neg (by rintro (h|h|h);exact npf1 hs n5 h;exact npf1 hs n6 h;exact npf1 hs n7 h)]⟩).mono (u rfl)
 by_cases B:64<n+1
 .rw[if_pos (show(64:Int)<ofNat (n+1) by rw[qJ];omega),FA.qt rfl]
  exact key ⟨3,i0⟩ (λ_=>rfl) (.inr (fa3 _)) λr v C=>by rw[if_pos B];exact .inl ⟨fa3 _,C.1 (fa3 _)⟩
 .rw[if_neg (show ¬(64:Int)<ofNat (n+1) by rw[qJ];omega)]
  exact key ⟨0,0⟩ (λ_=>rfl) (.inl (by omega)) λr v C=>by rw[if_neg B];exact C.2 rfl
end
section
variable{s:List Nat}{l:List AV}{dp:Int}(hs:s.length<=65536)(h8:∀c∈s,c<256)
include hs h8
theorem zWp{i:Nat}(a:i<s.length):zEB (ofNat s[i])=some (.bool (isAt wrdB s i)):=by
 rw[zBx a];exact zRG _ (h8 _ (QR a))
theorem zf3(i n:Nat)(B:i<=s.length)(G:n<=64)(F:l.length<=n):Wp (zF4 s (ofNat i) dp (ofNat n) 0 0 l) (zEm s l dp n (zEM s i n)):=by
 have z:l.length<=64:=by omega
 have J:=zFZ namB s i B;have p:i+min 24 (rn namB s i)<=s.length:=by omega
 have f:∀{j:Nat},j<=s.length->Wp (dD true [.v (.qc 0),.hc 0 false 7,.v .s,.v (.i .i64),.v (.i .i64),.v (.i .i64),.v (.c (AV.sym 0)),.v (.i .i64),.v (.i .i64),.vec 0 6] (zM (ofNat 5) (ofNat j) s (ofNat j) dp (ofNat n) 0 0 l) λD n5 n6 n7 n8 E y=>some (AV.int .i64 (Int.negSucc 0),[(0,HO.cells false [AV.str D,AV.int .i64 n5,AV.int .i64 n6,AV.int .i64 n7,AV.sym 0,AV.int .i64 n8,AV.int .i64 E])],[(0,VI.vec 6 y)])) (zEm s l dp n (.error (5,ofNat j))):=λ{j} H=>by
  refine adU (zGC ⟨0,0⟩ dp (ofNat n) l 5 _ _) ?_
  rw[FA.qt rfl];exact Wb (.inl ⟨fa5 _,_,_,_,_,_,H,rfl⟩)
 have C:∀b:Bool,b=isAt wrdB s (i+min 24 (rn namB s i))->isAt zAb s i=true->(isAt wrdB s (i+min 24 (rn namB s i))=false->cutS s i (i+min 24 (rn namB s i))≠[97,110,121])->Wp (zEp (ofNat i) (cutS s i (i+min 24 (rn namB s i))) b s (ofNat (i+min 24 (rn namB s i))) dp (ofNat n) 0 0 l) (zEm s l dp n (zEM s i n)):=λb e a g=>by
  rw[zN9];unfold zEM;rw[if_neg (by rw[a];decide)]
  refine Wa (λh=>?_) λh=>?_
  .rw[if_pos (by rw[←e];exact h)]
   exact f p
  .rw[if_neg (by rw[←e,h];decide),if_neg (g (by rw[←e];exact h))]
   exact zbY hs h8 _ _ n _ p G F
 have I:isAt zAb s i=true->(isAt wrdB s (i+min 24 (rn namB s i))=false->cutS s i (i+min 24 (rn namB s i))≠[97,110,121])->Wp (zGG (ofNat i) (cutS s i (i+min 24 (rn namB s i))) s (ofNat (i+min 24 (rn namB s i))) dp (ofNat n) 0 0 l) (zEm s l dp n (zEM s i n)):=λa g=>by
  rw[zOa];refine Wd (λd=>Wp.bd (R:=λc=>c=s[i+min 24 (rn namB s i)]) ⟨_,zAS d,rfl⟩ λc hc=>?_) λk=>C _ (zC5 k).symm a g
  subst hc;exact qk_b (zWp hs h8 d) (C _ rfl a g)
 have w:∀b:Bool,b=decide (cutS s i (i+min 24 (rn namB s i))=[97,110,121]/\isAt wrdB s (i+min 24 (rn namB s i))=false)->isAt zAb s i=true->Wp (zDh (ofNat i) (cutS s i (i+min 24 (rn namB s i))) b s (ofNat (i+min 24 (rn namB s i))) dp (ofNat n) 0 0 l) (zEm s l dp n (zEM s i n)):=λb e a=>by
  rw[zOf];refine Wa (λh=>adU (zPu ⟨0,0⟩ dp (ofNat n) l _ _) ?_) λh=>?_
  .rw[h]at e;obtain⟨h1,t⟩:=QP e.symm;unfold zEM;rw[if_neg (show ¬isAt zAb s i=false by rw[a];decide),if_neg (show ¬isAt wrdB s (i+min 24 (rn namB s i))=true by rw[t];decide),zd (by omega)]
   by_cases q:64<n+1
   .rw[if_pos (show(64:Int)<ofNat (n+1) by rw[qJ];omega),if_pos q,FA.qt rfl]
    exact adI (zF2 ⟨3,ofNat i⟩ dp _ l _ _ _ _ _ _ _ (fa3 _)) (Wb (.inl ⟨fa3 _,_,_,_,_,_,p,rfl⟩))
   .rw[if_neg (show ¬(64:Int)<ofNat (n+1) by rw[qJ];omega),if_neg q,if_pos h1]
    refine adI (zGW ⟨0,0⟩ dp _ l _ _ _ _ _ _ _ rfl z) (Wb ?_)
    show _=zBW (.int .i64 (ofNat (l.length+(RT.leaf 1 [] [] 0).size-1))) s _ _ _ _ _
    rw[zIg];rfl
  .rw[h]at e;have e:=Qk e.symm;exact I a λh1 t=>e ⟨t,h1⟩
 have u:∀b:Bool,b=!isAt zAb s i->Wp (zDi (ofNat i) b s (ofNat i) dp (ofNat n) 0 0 l) (zEm s l dp n (zEM s i n)):=λb e=>by
  rw[zOc];refine Wa (λh=>?_) λh=>?_
  .have a:isAt zAb s i=false:=by rw[h]at e;simpa using e
   unfold zEM;rw[if_pos a];exact f B
  .have a:isAt zAb s i=true:=by rw[h]at e;simpa using e
   rw[zOb];refine adS (zar hs ⟨0,0⟩ dp (ofNat n) l 24 (by decide) i B) ?_
   rw[zY];refine Wc (λr=>Wd (λd=>Wp.bd (R:=λc=>c=s[i+min 24 (rn namB s i)]) ⟨_,zAS d,rfl⟩ λc hc=>?_) λk=>w _ ?_ a) λr=>w _ ?_ a
   .subst hc;refine qk_b (zWp hs h8 d) (w _ ?_ a)
    cases isAt wrdB s (i+min 24 (rn namB s i))<;>simp[r]
   .rw[zC5 k];simp[r]
   .simp[r]
 rw[zPB];refine Wa (λh=>u _ ?_) λh=>?_
 .have h:i=s.length:=zIu.1 h;rw[zC5 (by omega)];rfl
 .have h:i≠s.length:=zNh.1 h;have d:i<s.length:=by omega
  refine Wp.bd (R:=λc=>c=s[i]) ⟨_,zAS d,rfl⟩ λc hc=>Wc (λh1=>u _ ?_) λh1=>Wp.bd (R:=λc=>c=s[i]) ⟨_,zAS d,rfl⟩ λc2 A=>u _ ?_
  .subst hc;rw[zBx d];unfold zAb;rw[QJ (by rw[qJ]at h1;omega)];rfl
  .subst hc;subst A;rw[zBx d];unfold zAb;rw[←decide_not];exact decide_eq_decide.2 (by rw[qJ]at h1⊢;omega)
end
theorem ze4{s:List Nat}(hs:s.length<=65536){x:FA}(hx:x.ok=false){l:List AV}{dp n:Int}{d i:Nat}(a:i<=s.length):Wp (zAL (d+1) s (ofNat i) dp n x.e x.f l) (zEI s x):=by
 rw[zHg];refine adU (zDV hs x dp n l i a) (Wa (λ_=>Wb ⟨_,_,_,_,_,zBi a,rfl⟩) λh=>?_)
 exfalso
 have h:(match x.ok with|true=>false|false=>true)=false:=by
  revert h
  unfold FA.ok;cases (x.e==0&&x.f==0)<;>intro h<;>first|rfl|exact h
 rw[hx]at h;cases h
abbrev zVN(s:List Nat)(l:List AV)(i n:Nat):Prop:=i<=s.length/\n<=64/\l.length<=n
def zdF(s:List Nat)(g:Nat):Prop:=∀(d:Nat)(l:List AV)(i n:Nat),5*g+1<=d->zVN s l i n->Wp (zAL d s (ofNat i) (ofNat (32-g)) (ofNat n) 0 0 l) (zEm s l (ofNat (32-g)) n (zGo s g i n))
def APN(s:List Nat)(g:Nat):Prop:=∀(d:Nat)(l:List AV)(i n:Nat),5*g+2<=d->zVN s l i n->Wp (zAZ d [38] 8 s (ofNat i) (ofNat (32-g)) (ofNat n) 0 0 l) (zEm s l (ofNat (32-g)) n (andM s g i n))
def zdG(s:List Nat)(g:Nat):Prop:=∀(d:Nat)(l:List AV)(i n:Nat),5*g+3<=d->zVN s l i n->Wp (zCx d s (ofNat i) (ofNat (32-g)) (ofNat n) 0 0 l) (zEm s l (ofNat (32-g)) n (andM s g i n))
def APA(s:List Nat)(g:Nat):Prop:=∀(d:Nat)(l:List AV)(i n:Nat),5*g+4<=d->zVN s l i n->Wp (zCk d [124] 9 s (ofNat i) (ofNat (32-g)) (ofNat n) 0 0 l) (zEm s l (ofNat (32-g)) n (orM s g i n))
def AOr(s:List Nat)(g:Nat):Prop:=∀(d:Nat)(l:List AV)(i n:Nat),5*g+5<=d->zVN s l i n->Wp (zHc d s (ofNat i) (ofNat (32-g)) (ofNat n) 0 0 l) (zEm s l (ofNat (32-g)) n (orM s g i n))
theorem zEm.cases{s:List Nat}{l:List AV}{dp:Int}{n0:Nat}{r:RE (Nat×Nat×RT)}{v:AV×Heap×Vecs}(g:zEm s l dp n0 r v):
  (∃i n t,r=.ok (i,n,t)/\v=zBW (.int .i64 (ofNat (l.length+t.size-1))) s (ofNat i) dp (ofNat n) ⟨0,0⟩ (l++t.fl l.length)) ∨
  (∃e f,r=.error (e,f)/\(FA.mk e f).ok=false/\∃(y:Int) (i:Nat) (d n:Int) (a:List AV),i<=s.length/\v=zBW (.int .i64 y) s (ofNat i) d n ⟨e,f⟩ a) ∨
  (∃(y:Int) (i n':Nat) (a:List AV),r=.error (5,ofNat i)/\isAt wrdB s i=true/\n'<=64/\a.length+n0<=l.length+n'/\v=zBW (.int .i64 y) s (ofNat i) dp (ofNat n') ⟨0,0⟩ a):=by
 cases r with
 |ok r=>obtain⟨i,n,t⟩:=r;exact .inl ⟨i,n,t,rfl,g⟩
 |error e=>
  obtain⟨e,f⟩:=e;rcases g with⟨h1,b⟩|⟨j,y,i,n',a,h1,b,k,h,p⟩
  .exact .inr (.inl ⟨e,f,rfl,h1,b⟩)
  .subst j;subst h1;exact .inr (.inr ⟨y,i,n',a,rfl,b,k,h,p⟩)
theorem zUN{s:List Nat}{x:FA}(hx:x.ok=false){l:List AV}{dp n left:Int}{d N:Nat}{i:Nat}(a:i<=s.length){t:List Nat}{k:Int}:Wp (zO d (N+1) t k left s (ofNat i) dp n x.e x.f l) (zEI s x):=by
 rw[zBo];refine Wa (λh=>?_) λ_=>Wb ⟨_,_,_,_,_,a,rfl⟩
 exfalso
 have h:x.ok=true:=h;rw[hx]at h;cases h
theorem zZA{s:List Nat}(hs:s.length<=65536){l:List AV}{dp n left:Int}{d N:Nat}{i c:Nat}{k:Int}(b:isAt wrdB s i=true)(hc:wrdB c=false):zO d (N+1) [c] k left s (ofNat i) dp n 0 0 l=some (zBW (.int .i64 left) s (ofNat i) dp n ⟨0,0⟩ l):=by
 have e:=zLw b;have a:=zNe (zNi b);refine zf ?_
 rw[zBo];refine Wt rfl (adU (zDV hs ⟨0,0⟩ dp n l i (by omega)) ?_)
 rw[a];refine zDg hs ⟨0,0⟩ [c] i (by omega) n (λh=>?_) λ_=>Wt rfl (Wb (by rw[a]))
 rw[a,zTt b hc]at h;cases h
theorem ze5{s:List Nat}(hs:s.length<=65536){g:Nat}(h1:zdF s g)(A:∀{x:FA},x.ok=false->∀{l:List AV}{dp n:Int}{d i:Nat},1<=d->i<=s.length->Wp (zAL d s (ofNat i) dp n x.e x.f l) (zEI s x)){d:Nat}(H:5*g+1<=d)(l:List AV)(n0:Nat):∀(N b i n:Nat)(t:RT),n<=64->65<=n+b->b<N->l.length+t.size<=n->t.size+n0<=n->i<=s.length →
  Wp (zO d N [38] 8 (ofNat (l.length+t.size-1)) s (ofNat i) (ofNat (32-g)) (ofNat n) 0 0 (l++t.fl l.length)) (zEm s l (ofNat (32-g)) n0 (zJz (zGo s g) s 38 8 b i n t)):=by
 intro N
 induction N with
 |zero=>intro b i n t _ _ h;omega
 |succ N Q=>
  intro b i n t T U V S R G;obtain⟨b,rfl⟩:∃k,b=k+1:=⟨b-1,by omega⟩
  obtain⟨N,rfl⟩:∃k,N=k+1:=⟨N-1,by omega⟩
  have hk:=zBi G;rw[zBo,zJz];refine Wt rfl (adU (zDV hs ⟨0,0⟩ _ (ofNat n) _ i G) (zDg hs ⟨0,0⟩ [38] (sk s i) hk _ (λh a=>Wf rfl<|?_) λh=>Wt rfl (?_)))
  .rw[zCB]at h a⊢;have h:=pfx1.1 h;have a:sk s i+1<=s.length:=a;rw[if_pos h];refine adU (zPu ⟨0,0⟩ _ (ofNat n) _ _ _) ?_
   rw[zd (by omega)]
   by_cases D:64<n+1
   .rw[if_pos (show(64:Int)<ofNat (n+1) by rw[qJ];omega),if_pos D,FA.qt rfl]
    obtain⟨v,j,y,C,r,p,B,q,rfl⟩:=A (x:=⟨3,ofNat (sk s i)⟩) (fa3 _) (l:=l++t.fl l.length) (dp:=ofNat (32-g)) (n:=ofNat (n+1)) (d:=d) (by omega) a
    refine adI j (adI (zF2 ⟨3,ofNat (sk s i)⟩ r p B _ _ _ _ _ _ _ (fa3 _)) ((zUN (x:=⟨3,ofNat (sk s i)⟩) (fa3 _) q).mono λv j=>.inl ⟨fa3 _,j⟩))
   .rw[if_neg (show ¬(64:Int)<ofNat (n+1) by rw[qJ];omega),if_neg D]
    have I:(l++t.fl l.length).length=l.length+t.size:=by rw[QC,RT.fl_length]
    obtain⟨v,j,L⟩:=h1 d (l++t.fl l.length) (sk s i+1) (n+1) H ⟨a,by omega,by omega⟩
    rcases L.cases with⟨C,p,u,z,rfl⟩|⟨e,f,z,w,y,C,r,p,B,q,rfl⟩|⟨y,C,p,B,z,F,E,M,rfl⟩
    .rw[z];obtain⟨g1,g2,g3,g4,g5⟩:=zLy s g _ _ _ _ _ a (by omega) z
     have K:(RT.two 8 t u).size=t.size+u.size+1:=rfl;have O:(l++t.fl l.length++u.fl (l++t.fl l.length).length).length=l.length+(RT.two 8 t u).size-1:=by
      rw[QC,RT.fl_length,QC,RT.fl_length];omega
     refine adI j (adI (zGW ⟨0,0⟩ _ _ _ _ _ _ _ _ _ _ rfl (by omega)) ?_)
     have J:=zUI l 8 t u;rw[O];have:=Q b C p (.two 8 t u) g4 (by omega) (by omega) (by omega) (by omega) g2
     rw[←J]at this;exact this
    .rw[z];refine adI j (adI (zF2 ⟨e,f⟩ r p B _ _ _ _ _ _ _ w) ((zUN (x:=⟨e,f⟩) w q).mono λv j=>.inl ⟨w,j⟩))
    .rw[z];refine adI j (adI (zGW ⟨0,0⟩ _ _ _ _ _ _ _ _ _ _ rfl (by omega)) ⟨_,zZA hs F (by decide),.inr ⟨rfl,_,C,p,_,rfl,F,E,?_,rfl⟩⟩)
     rw[QC];show B.length+1+n0<=_
     omega
  .rw[zCB]at h⊢;rw[if_neg (npf1 hs h)];exact Wb rfl
theorem zgo{s:List Nat}(hs:s.length<=65536){g:Nat}(h1:zdF s g)(b:∀{x:FA},x.ok=false->∀{l:List AV}{dp n:Int}{d i:Nat},1<=d->i<=s.length->Wp (zAL d s (ofNat i) dp n x.e x.f l) (zEI s x)):APN s g:=by
 intro d l i n G z;obtain⟨d,rfl⟩:∃k,d=k+1:=⟨d-1,by omega⟩
 rw[zDS];obtain⟨v,j,E⟩:=h1 d l i n (by omega) z
 obtain⟨D,B,H⟩:=z;show Wp _ (zEm s l _ n (zF1 (zGo s g) s 38 8 i n))
 unfold zF1;rw[show ze=1180591620717411303423+1 from zE3]
 rcases E.cases with⟨q,p,u,a,rfl⟩|⟨e,f,a,h,y,q,C,p,F,r,rfl⟩|⟨y,q,p,F,a,A,t,w,rfl⟩
 .rw[a];obtain⟨g1,g2,g3,g4,g5⟩:=zLy s g _ _ _ _ _ D B a;exact adI j (ze5 hs h1 b (by omega) l n _ 65 q p u g4 (by omega) (by omega) (by omega) (by omega) g2)
 .rw[a];exact adI j ((zUN (x:=⟨e,f⟩) h r).mono λv j=>.inl ⟨h,j⟩)
 .rw[a];exact adI j ⟨_,zZA hs A (by decide),.inr ⟨rfl,_,q,p,_,rfl,A,t,w,rfl⟩⟩
theorem zat{s:List Nat}(hs:s.length<=65536)(a:∀{x:FA},x.ok=false->∀{l:List AV}{dp n:Int}{d i:Nat},1<=d->i<=s.length->Wp (zAL d s (ofNat i) dp n x.e x.f l) (zEI s x)){x:FA}(hx:x.ok=false){t:List Nat}{k:Int}{l:List AV}{dp n:Int}{d i:Nat}(p:1+1<=d)(h:i<=s.length):Wp (zAZ d t k s (ofNat i) dp n x.e x.f l) (zEI s x):=by
 obtain⟨d,rfl⟩:∃k,d=k+1:=⟨d-1,by omega⟩
 rw[zDS];obtain⟨v,j,y,u,g,q,r,b,rfl⟩:=a hx (l:=l) (dp:=dp) (n:=n) (d:=d) (by omega) h
 rw[show ze=1180591620717411303423+1 from zE3]
 exact adI j (zUN hx b)
theorem zZB{s:List Nat}{g:Nat}(h:APN s g):zdG s g:=by
 intro d l i n D w;obtain⟨d,rfl⟩:∃k,d=k+1:=⟨d-1,by omega⟩
 rw[zKK];obtain⟨v,b,a⟩:=h d l i n (by omega) w
 rcases a.cases with⟨q,j,u,p,rfl⟩|⟨e,f,p,B,y,q,t,j,C,r,rfl⟩|⟨y,q,j,C,p,E,z,A,rfl⟩
 .exact adI b (Wb a)
 .exact adI b (Wb a)
 .exact adI b (Wb a)
theorem zP6{s:List Nat}(hs:s.length<=65536):∀{x:FA},x.ok=false->∀{l:List AV}{dp n:Int}{d i:Nat},1<=d->i<=s.length->Wp (zAL d s (ofNat i) dp n x.e x.f l) (zEI s x):=by
 intro x b l dp n d i g a;obtain⟨d,rfl⟩:∃k,d=k+1:=⟨d-1,by omega⟩
 exact ze4 hs b a
theorem zX1{s:List Nat}(hs:s.length<=65536):∀{x:FA},x.ok=false->∀{l:List AV}{dp n:Int}{d i:Nat},3<=d->i<=s.length->Wp (zCx d s (ofNat i) dp n x.e x.f l) (zEI s x):=by
 intro x h l dp n d i p g;obtain⟨d,rfl⟩:∃k,d=k+1:=⟨d-1,by omega⟩
 rw[zKK];obtain⟨v,j,y,u,b,q,r,a,rfl⟩:=zat hs (zP6 hs) h (t:=[38]) (k:=ofNat 8) (l:=l) (dp:=dp) (n:=n) (d:=d) (by omega) g
 exact adI j (Wb ⟨_,_,_,_,_,a,rfl⟩)
theorem zX2{s:List Nat}{x:FA}(hx:x.ok=false){l:List AV}{dp n left:Int}{d N:Nat}{i:Nat}(a:i<=s.length){t:List Nat}{k:Int}:Wp (zN d (N+1) t k left s (ofNat i) dp n x.e x.f l) (zEI s x):=by
 rw[zBn];refine Wa (λh=>?_) λ_=>Wb ⟨_,_,_,_,_,a,rfl⟩
 exfalso
 have h:x.ok=true:=h;rw[hx]at h;cases h
theorem zZC{s:List Nat}(hs:s.length<=65536){l:List AV}{dp n left:Int}{d N:Nat}{i c:Nat}{k:Int}(b:isAt wrdB s i=true)(hc:wrdB c=false):zN d (N+1) [c] k left s (ofNat i) dp n 0 0 l=some (zBW (.int .i64 left) s (ofNat i) dp n ⟨0,0⟩ l):=by
 have e:=zLw b;have a:=zNe (zNi b);refine zf ?_
 rw[zBn];refine Wt rfl (adU (zDV hs ⟨0,0⟩ dp n l i (by omega)) ?_)
 rw[a];refine zDg hs ⟨0,0⟩ [c] i (by omega) n (λh=>?_) λ_=>Wt rfl (Wb (by rw[a]))
 rw[a,zTt b hc]at h;cases h
theorem ze6{s:List Nat}(hs:s.length<=65536){g:Nat}(h1:zdG s g)(A:∀{x:FA},x.ok=false->∀{l:List AV}{dp n:Int}{d i:Nat},3<=d->i<=s.length->Wp (zCx d s (ofNat i) dp n x.e x.f l) (zEI s x)){d:Nat}(H:5*g+3<=d)(l:List AV)(n0:Nat):∀(N b i n:Nat)(t:RT),n<=64->65<=n+b->b<N->l.length+t.size<=n->t.size+n0<=n->i<=s.length →
  Wp (zN d N [124] 9 (ofNat (l.length+t.size-1)) s (ofNat i) (ofNat (32-g)) (ofNat n) 0 0 (l++t.fl l.length)) (zEm s l (ofNat (32-g)) n0 (zJz (andM s g) s 124 9 b i n t)):=by
 intro N
 induction N with
 |zero=>intro b i n t _ _ h;omega
 |succ N Q=>
  intro b i n t T U V S R G;obtain⟨b,rfl⟩:∃k,b=k+1:=⟨b-1,by omega⟩
  obtain⟨N,rfl⟩:∃k,N=k+1:=⟨N-1,by omega⟩
  have hk:=zBi G;rw[zBn,zJz];refine Wt rfl (adU (zDV hs ⟨0,0⟩ _ (ofNat n) _ i G) (zDg hs ⟨0,0⟩ [124] (sk s i) hk _ (λh a=>Wf rfl<|?_) λh=>Wt rfl (?_)))
  .rw[zCB]at h a⊢;have h:=pfx1.1 h;have a:sk s i+1<=s.length:=a;rw[if_pos h];refine adU (zPu ⟨0,0⟩ _ (ofNat n) _ _ _) ?_
   rw[zd (by omega)]
   by_cases D:64<n+1
   .rw[if_pos (show(64:Int)<ofNat (n+1) by rw[qJ];omega),if_pos D,FA.qt rfl]
    obtain⟨v,j,y,C,r,p,B,q,rfl⟩:=A (x:=⟨3,ofNat (sk s i)⟩) (fa3 _) (l:=l++t.fl l.length) (dp:=ofNat (32-g)) (n:=ofNat (n+1)) (d:=d) (by omega) a
    refine adI j (adI (zF2 ⟨3,ofNat (sk s i)⟩ r p B _ _ _ _ _ _ _ (fa3 _)) ((zX2 (x:=⟨3,ofNat (sk s i)⟩) (fa3 _) q).mono λv j=>.inl ⟨fa3 _,j⟩))
   .rw[if_neg (show ¬(64:Int)<ofNat (n+1) by rw[qJ];omega),if_neg D]
    have I:(l++t.fl l.length).length=l.length+t.size:=by rw[QC,RT.fl_length]
    obtain⟨v,j,L⟩:=h1 d (l++t.fl l.length) (sk s i+1) (n+1) H ⟨a,by omega,by omega⟩
    rcases L.cases with⟨C,p,u,z,rfl⟩|⟨e,f,z,w,y,C,r,p,B,q,rfl⟩|⟨y,C,p,B,z,F,E,M,rfl⟩
    .rw[z];obtain⟨g1,g2,g3,g4,g5⟩:=zPr s g _ _ _ _ _ a (by omega) z
     have K:(RT.two 9 t u).size=t.size+u.size+1:=rfl;have O:(l++t.fl l.length++u.fl (l++t.fl l.length).length).length=l.length+(RT.two 9 t u).size-1:=by
      rw[QC,RT.fl_length,QC,RT.fl_length];omega
     refine adI j (adI (zGW ⟨0,0⟩ _ _ _ _ _ _ _ _ _ _ rfl (by omega)) ?_)
     have J:=zUI l 9 t u;rw[O];have:=Q b C p (.two 9 t u) g4 (by omega) (by omega) (by omega) (by omega) g2
     rw[←J]at this;exact this
    .rw[z];refine adI j (adI (zF2 ⟨e,f⟩ r p B _ _ _ _ _ _ _ w) ((zX2 (x:=⟨e,f⟩) w q).mono λv j=>.inl ⟨w,j⟩))
    .rw[z];refine adI j (adI (zGW ⟨0,0⟩ _ _ _ _ _ _ _ _ _ _ rfl (by omega)) ⟨_,zZC hs F (by decide),.inr ⟨rfl,_,C,p,_,rfl,F,E,?_,rfl⟩⟩)
     rw[QC];show B.length+1+n0<=_
     omega
  .rw[zCB]at h⊢;rw[if_neg (npf1 hs h)];exact Wb rfl
theorem zgp{s:List Nat}(hs:s.length<=65536){g:Nat}(h1:zdG s g)(b:∀{x:FA},x.ok=false->∀{l:List AV}{dp n:Int}{d i:Nat},3<=d->i<=s.length->Wp (zCx d s (ofNat i) dp n x.e x.f l) (zEI s x)):APA s g:=by
 intro d l i n G z;obtain⟨d,rfl⟩:∃k,d=k+1:=⟨d-1,by omega⟩
 rw[zHJ];obtain⟨v,j,E⟩:=h1 d l i n (by omega) z
 obtain⟨D,B,H⟩:=z;show Wp _ (zEm s l _ n (zF1 (andM s g) s 124 9 i n))
 unfold zF1;rw[show ze=1180591620717411303423+1 from zE3]
 rcases E.cases with⟨q,p,u,a,rfl⟩|⟨e,f,a,h,y,q,C,p,F,r,rfl⟩|⟨y,q,p,F,a,A,t,w,rfl⟩
 .rw[a];obtain⟨g1,g2,g3,g4,g5⟩:=zPr s g _ _ _ _ _ D B a;exact adI j (ze6 hs h1 b (by omega) l n _ 65 q p u g4 (by omega) (by omega) (by omega) (by omega) g2)
 .rw[a];exact adI j ((zX2 (x:=⟨e,f⟩) h r).mono λv j=>.inl ⟨h,j⟩)
 .rw[a];exact adI j ⟨_,zZC hs A (by decide),.inr ⟨rfl,_,q,p,_,rfl,A,t,w,rfl⟩⟩
theorem zbZ{s:List Nat}{g:Nat}(h:APA s g):AOr s g:=by
 intro d l i n D w;obtain⟨d,rfl⟩:∃k,d=k+1:=⟨d-1,by omega⟩
 rw[zQR];obtain⟨v,b,a⟩:=h d l i n (by omega) w
 rcases a.cases with⟨q,j,u,p,rfl⟩|⟨e,f,p,B,y,q,t,j,C,r,rfl⟩|⟨y,q,j,C,p,E,z,A,rfl⟩
 .exact adI b (Wb a)
 .exact adI b (Wb a)
 .exact adI b (Wb a)
theorem zX3{s:List Nat}(hs:s.length<=65536)(h8:∀c∈s,c<256){l:List AV}{i n:Nat}{dp:Int}(b:zVN s l i n):Wp (dD true [.v (.i .i64),.hc 0 false 7,.v .s,.v (.i .i64),.v (.i .i64),.v (.i .i64),.v (.c (AV.sym 0)),.v (.i .i64),.v (.i .i64),.vec 0 6] (zF4 s (ofNat i) dp (ofNat n) 0 0 l) λn15 z n16 n17 n18 n19 n20 g=>some (AV.int .i64 n15,[(0,HO.cells false [AV.str z,AV.int .i64 n16,AV.int .i64 n17,AV.int .i64 n18,AV.sym 0,AV.int .i64 n19,AV.int .i64 n20])],[(0,VI.vec 6 g)])) (zEm s l dp n (zEM s i n)):=by
 obtain⟨v,d,a⟩:=zf3 (l:=l) (dp:=dp) hs h8 i n b.1 b.2.1 b.2.2;rcases a.cases with⟨k,h,u,j,rfl⟩|⟨e,f,j,w,y,k,q,h,A,p,rfl⟩|⟨y,k,h,A,j,B,r,t,rfl⟩
 .exact adI d (Wb a)
 .exact adI d (Wb a)
 .exact adI d (Wb a)
theorem zP7{s:List Nat}{l:List AV}{d:Nat}{y i dp n:Int}{x:FA}{b:Bool}:zEO d y b s i dp n x.e x.f l=some (zBW (.int .i64 y) s i dp n (if b=true then x.fail 5 i else x) l):=by
 refine zf ?_
 rw[zOp];refine Wa (λh=>adU (zGC x dp n l 5 i i) ?_) λh=>?_
 .rw[zI1,if_pos h];exact Wb rfl
 .rw[zI1,if_neg (by rw[h];decide)];exact Wb rfl
theorem zgN{s:List Nat}(hs:s.length<=65536)(h8:∀c∈s,c<256):∀g,g<=32->zdF s g:=by
 intro g
 induction g with
 |zero=>
  intro _ d l i n T O;obtain⟨d,rfl⟩:∃k,d=k+1:=⟨d-1,by omega⟩
  obtain⟨G,E,K⟩:=O;have hk:=zBi G;rw[zHg,zGo];have B:s[sk s i]?=some 33\/s[sk s i]?=some 40->∀v,zEI s ⟨3,ofNat (sk s i)⟩ v->zEm s l (ofNat (32-0)) n (if s[sk s i]?=some 33\/s[sk s i]?=some 40 then .error (3,ofNat (sk s i))else zEM s (sk s i) n) v:=λh v A=>by
   rw[if_pos h];exact .inl ⟨fa3 _,A⟩
  refine adU (zDV hs ⟨0,0⟩ _ (ofNat n) l i G) (Wf rfl<|zDg hs ⟨0,0⟩ [33] (sk s i) hk _ (λh a=>Wt rfl (adB (zWo ⟨0,0⟩ _ _ l _ _ rfl) (Wt rfl (Wb ?_)))) λw=>Wf rfl<|?_)
  .rw[zCB]at h a;refine B (.inl (pfx1.1 h)) _ ?_
   rw[FA.qt rfl];exact⟨_,sk s (sk s i)+[33].length,_,_,_,by rw[zCB];exact a,rfl⟩
  rw[zCB]at w⊢;refine zDg hs ⟨0,0⟩ [40] (sk s i) hk _ (λh a=>Wt rfl (adB (zWo ⟨0,0⟩ _ _ l _ _ rfl) (Wt rfl (Wb ?_)))) λq=>Wf rfl<|?_
  .rw[zCB]at h a;refine B (.inr (pfx1.1 h)) _ ?_
   rw[FA.qt rfl];exact⟨_,sk s (sk s i)+[40].length,_,_,_,by rw[zCB];exact a,rfl⟩
  rw[zCB]at q⊢;rw[if_neg (by rintro (h|h);exact npf1 hs w h;exact npf1 hs q h)]
  exact zX3 hs h8 ⟨hk,E,K⟩
 |succ g L=>
  intro X d l i n T O;have L:=L (by omega)
  have S:AOr s g:=zbZ (zgp hs (zZB (zgo hs L (zP6 hs))) (zX1 hs));obtain⟨d,rfl⟩:∃k,d=k+1:=⟨d-1,by omega⟩
  obtain⟨G,E,K⟩:=O;have hk:=zBi G;have deep:ofNat (32-(g+1))+1=ofNat (32-g):=by rw[qJ,qJ];omega
  have t:wrapx .i64 (ofNat (32-g)-1)=ofNat (32-(g+1)):=by rw[zm (by rw[qJ];omega) (by rw[qJ];omega),qJ,qJ];omega
  have d1:ofNat (32-(g+1))+1<=32:=by rw[qJ];omega
  have d0:0<=ofNat (32-(g+1)):=QU _;rw[zHg,zGo];refine adU (zDV hs ⟨0,0⟩ _ (ofNat n) l i G) (Wf rfl<|zDg hs ⟨0,0⟩ [33] (sk s i) hk _ (λh a=>Wt rfl (?_)) λw=>Wf rfl<|?_)
  .rw[zCB]at h a⊢;have h:=pfx1.1 h;have a:sk s i+1<=s.length:=a;rw[if_pos h];refine adB (zZx ⟨0,0⟩ _ _ l _ _ d1 d0) (Wf rfl<|adU (zPu ⟨0,0⟩ _ (ofNat n) _ _ _) ?_)
   rw[zd (by omega),deep]
   by_cases J:64<n+1
   .rw[if_pos (show(64:Int)<ofNat (n+1) by rw[qJ];omega),if_pos J,FA.qt rfl]
    obtain⟨v,A,y,b,F,p,D,r,rfl⟩:=zP6 hs (x:=⟨3,ofNat (sk s i)⟩) (fa3 _) (l:=l) (dp:=ofNat (32-g)) (n:=ofNat (n+1)) (d:=d) (by omega) a
    exact adI A (adI (zF2 ⟨3,ofNat (sk s i)⟩ _ p D _ _ _ _ _ _ _ (fa3 _)) (Wb (.inl ⟨fa3 _,_,_,_,_,_,r,rfl⟩)))
   .rw[if_neg (show ¬(64:Int)<ofNat (n+1) by rw[qJ];omega),if_neg J]
    obtain⟨v,A,Q⟩:=L d l (sk s i+1) (n+1) (by omega) ⟨a,by omega,by omega⟩
    rcases Q.cases with⟨b,p,u,j,rfl⟩|⟨e,f,j,z,y,b,F,p,D,r,rfl⟩|⟨y,b,p,D,j,H,I,R,rfl⟩
    .rw[j];obtain⟨g1,g2,g3,g4,g5⟩:=zLy s g _ _ _ _ _ a (by omega) j
     refine adI A ?_
     rw[t];refine adI (zGW ⟨0,0⟩ _ _ _ _ _ _ _ _ _ _ rfl (by rw[QC,RT.fl_length];omega)) (Wb ?_)
     have W:l++u.fl l.length++[nd6 (ofNat 7) [] [] (ofNat 0) (ofNat (l.length+u.size-1)) (Int.negSucc 0)]=l++(RT.not u).fl l.length:=by rw[RT.fl,Qo];rfl
     have V:(l++u.fl l.length).length=l.length+(RT.not u).size-1:=by
      rw[QC,RT.fl_length];show _=l.length+(u.size+1)-1
      omega
     show zBW (.int .i64 (ofNat (l++u.fl l.length).length)) s (ofNat b) _ (ofNat p) ⟨0,0⟩ (l++u.fl l.length++[nd6 (ofNat 7) [] [] (ofNat 0) (ofNat (l.length+u.size-1)) (Int.negSucc 0)])=_
     rw[W,V]
    .rw[j];refine adI A ?_
     exact adI (zF2 ⟨e,f⟩ _ p D _ _ _ _ _ _ _ z) (Wb (.inl ⟨z,_,_,_,_,_,r,rfl⟩))
    .rw[j];refine adI A ?_
     rw[t];refine adI (zGW ⟨0,0⟩ _ _ _ _ _ _ _ _ _ _ rfl (by omega)) (Wb (.inr ⟨rfl,_,b,p,_,rfl,H,I,?_,rfl⟩))
     rw[QC];show D.length+1+n<=_
     omega
  rw[zCB]at w⊢;rw[if_neg (npf1 hs w)];refine zDg hs ⟨0,0⟩ [40] (sk s i) hk _ (λh a=>Wt rfl (?_)) λq=>Wf rfl<|?_
  .rw[zCB]at h a⊢;have h:=pfx1.1 h;have a:sk s i+1<=s.length:=a;rw[if_pos h];refine adB (zZx ⟨0,0⟩ _ _ l _ _ d1 d0) (Wf rfl<|?_)
   rw[deep];obtain⟨v,A,Q⟩:=S d l (sk s i+1) n (by omega) ⟨a,E,K⟩
   show Wp _ (zEm s l _ n (zPp s (orM s g (sk s i+1) n)))
   rcases Q.cases with⟨b,p,u,j,rfl⟩|⟨e,f,j,z,y,b,F,p,D,r,rfl⟩|⟨y,b,p,D,j,H,I,R,rfl⟩
   .rw[j];obtain⟨g1,g2,g3,g4,g5⟩:=zRE s g _ _ _ _ _ a E j;have M:=zBi g2;show Wp _ (zEm s l _ n (if s[sk s b]?=some 41 then .ok (sk s b+1,p,u)else .error (5,ofNat (sk s b))))
    refine adI A (Wt rfl (?_))
    rw[t];refine zDg hs ⟨0,0⟩ [41] b g2 _ (λh a=>?_) λh=>?_
    .rw[if_pos (pfx1.1 h)];refine⟨_,zP7 (x:=⟨0,0⟩),?_⟩
     rfl
    .rw[if_neg (npf1 hs h)];refine⟨_,zP7 (x:=⟨0,0⟩),.inl ⟨fa5 _,?_⟩⟩
     rw[if_pos (show(!false)=true from rfl),FA.qt rfl]
     exact⟨_,_,_,_,_,M,rfl⟩
   .rw[j];refine adI A (Wa (λh=>?_) λ_=>⟨_,zP7 (x:=⟨e,f⟩),.inl ⟨z,_,_,_,_,_,r,rfl⟩⟩)
    exfalso
    have h:(FA.mk e f).ok=true:=h;rw[z]at h;cases h
   .rw[j];have U:=zLw H;have C:=zNe (zNi H);refine adI A (Wt rfl (?_))
    refine zDg hs ⟨0,0⟩ [41] b (by omega) _ (λh=>?_) λ_=>⟨_,zP7 (x:=⟨0,0⟩),.inl ⟨fa5 _,?_⟩⟩
    .rw[C,zTt H (by decide)]at h;cases h
    .rw[C];rw[if_pos (show(!false)=true from rfl),FA.qt rfl]
     exact⟨_,b,_,_,_,by omega,rfl⟩
  .rw[zCB]at q⊢;rw[if_neg (npf1 hs q)];exact zX3 hs h8 ⟨hk,E,K⟩
theorem zgq{s:List Nat}(hs:s.length<=65536)(h8:∀c∈s,c<256):AOr s 32:=zbZ (zgp hs (zZB (zgo hs (zgN hs h8 32 (QA _)) (zP6 hs))) (zX1 hs))
def RT.rk:RT->Int
 |.leaf k _ _ _=>k
 |.not _=>7
 |.two k _ _=>k
theorem zdd(k:Int):zIh k=some (.int .i64 (if k=9 then 1 else if k=8 then 2 else if k=7 then 3 else 4)):=by
 refine zf ?_
 rw[zOO];refine Wa (λh=>Wb ?_) λh=>Wa (λa=>Wb ?_) λa=>Wa (λb=>Wb ?_) λb=>Wb ?_
 .rw[if_pos (by simpa using h)];rfl
 .rw[if_neg (by simpa using h),if_pos (by simpa using a)];rfl
 .rw[if_neg (by simpa using h),if_neg (by simpa using a),if_pos (by simpa using b)];rfl
 .rw[if_neg (by simpa using h),if_neg (by simpa using a),if_neg (by simpa using b)];rfl
theorem RT.root{es:List AV}{t:RT}{o:Nat}(h:Seg es t o):∃a b n l r,es[o+t.size-1]?=some (nd6 t.rk a b n l r):=by
 cases t with
 |leaf k a b n=>exact⟨_,_,_,_,_,h.leaf⟩
 |not t=>exact⟨_,_,_,_,_,h.not.2⟩
 |two k t u=>
  refine⟨[],[],ofNat 0,ofNat (o+t.size-1),ofNat (o+t.size+u.size-1),?_⟩
  rw[show o+(RT.two k t u).size-1=o+t.size+u.size by show o+(t.size+u.size+1)-1=_;omega]
  exact h.two.2.2
theorem zdQ{t:RT}(hk:t.kd){m:Int}(hm:m=0\/m=1\/m=2):((if t.rk=9 then(1:Int)else if t.rk=8 then 2 else if t.rk=7 then 3 else 4)<m+1)↔t.tg<m:=by
 cases t with
 |leaf k a b n=>
  have h1:=hk.1;have d:=hk.2;show(if k=9 then(1:Int)else if k=8 then 2 else if k=7 then 3 else 4)<m+1↔(2:Int)<m
  rw[if_neg (by omega),if_neg (by omega),if_neg (by omega)]
  omega
 |not t=>
  show(3:Int)<m+1↔(2:Int)<m
  omega
 |two k t u=>
  show(if k=9 then(1:Int)else if k=8 then 2 else if k=7 then 3 else 4)<m+1↔(if k=9 then(0:Int)else if k=8 then 1 else 2)<m
  rcases hk.1 with rfl|rfl
  .rw[if_neg (by decide),if_pos rfl,if_neg (by decide),if_pos rfl];omega
  .rw[if_pos rfl,if_pos rfl];omega
theorem zMi{es:List AV}{t:RT}{o d:Nat}{m:Int}(hm:m=0\/m=1\/m=2)(hs:Seg es t o)(hk:t.kd)(g:t.told.length<=9000000000000000000)(h:zD4 d es (ofNat (o+t.size-1))=some (.str t.told)):zCT (d+1) (ofNat (o+t.size-1)) (m+1) es=some (.str (parT t.tg m t.told)):=by
 obtain⟨a,b,n,l,r,f⟩:=RT.root hs;have m0:zh=9223372036854775807:=rfl;refine zf ?_
 rw[zN5];refine zBV h (zBj f (qk_i (zdd _) (Wc (λh=>We ?_ (We ?_ (Wb ?_))) λh=>Wb ?_)))
 .simp only[QL,QZ];omega
 .simp only[QC,QL,QZ];omega
 .unfold parT;rw[if_pos ((zdQ hk hm).1 h)]
 .unfold parT;rw[if_neg (λe=>h ((zdQ hk hm).2 e))]
theorem zWq{es:List AV}{M:Nat}(hM:M<=5000000):∀(t:RT)(o d:Nat),2*t.size<=d->t.size<=1000->Seg es t o->t.bd M->t.kd->zD4 d es (ofNat (o+t.size-1))=some (.str t.told):=by
 have m0:zh=9223372036854775807:=rfl;intro t
 induction t with
 |leaf k a b n=>
  intro o d D F hs p hk;have f:(RT.leaf k a b n).size=1:=rfl;obtain⟨d,rfl⟩:∃e,d=e+1:=⟨d-1,by omega⟩
  refine zf ?_
  rw[zIM,f,show o+1-1=o by omega]
  refine zBj hs.leaf ?_
  have j:1<=k:=hk.1;have Q:k<=6:=hk.2;obtain⟨v,g,z⟩:=p;have q:=zc9 n g z;have S:=zXW n g z;rw[show(RT.leaf k a b n).told=zL4 k a b n from rfl]
  unfold zL4;refine Wa (λh=>Wb ?_) λh1=>Wa (λh=>We ?_ (We ?_ (Wb ?_))) λI=>Wa (λh=>We ?_ (We ?_ (Wb ?_))) λR=>Wa (λh=>We ?_ (zBV q (We ?_ (Wb ?_)))) λJ=>Wa (λh=>We ?_ (zBV q (We ?_ (Wb ?_)))) λK=>Wa (λh=>?_) λh7=>Wa (λh=>?_) λh8=>Wa (λh=>?_) λh9=>Wb ?_
  all_goals simp only[beq_iff_eq,beq_eq_false_iff_ne,ne_eq]at *
  all_goals first
   |(simp only[QC,QL,QZ];omega)
   |(subst h;simp;done)
   |(exfalso;omega)
   |(rw[if_neg h1,if_neg I,if_neg R,if_neg J,if_neg K])
 |not t U=>
  intro o d D F hs p hk;have f:(RT.not t).size=t.size+1:=rfl;have:=t.size_pos;obtain⟨d,rfl⟩:∃e,d=e+1+1:=⟨d-2,by omega⟩
  refine zf ?_
  rw[zIM,f,show o+(t.size+1)-1=o+t.size by omega]
  obtain⟨w,y⟩:=hs.not;refine zBj y ?_
  have p:t.bd M:=p;have hl:=zG9 p;have A:=zC6 t.tg 2 t.told;have G:t.size*(M+40)<=1000*5000040:=Nat.mul_le_mul (by omega) (by omega)
  have hk:t.kd:=hk;refine Wf rfl<|Wf rfl<|Wf rfl<|Wf rfl<|Wf rfl<|Wt rfl (?_)
  refine zBV (zMi (m:=2) (.inr (.inr rfl)) w hk (by omega) (U o d (by omega) (by omega) w p hk)) (We ?_ (Wb rfl))
  simp only[QL,QZ];omega
 |two k t u C B=>
  intro o d D F hs p hk;have f:(RT.two k t u).size=t.size+u.size+1:=rfl;have:=t.size_pos;have:=u.size_pos;obtain⟨d,rfl⟩:∃e,d=e+1+1:=⟨d-2,by omega⟩
  refine zf ?_
  rw[zIM,f,show o+(t.size+u.size+1)-1=o+t.size+u.size by omega]
  obtain⟨w,y,T⟩:=hs.two;refine zBj T ?_
  obtain⟨v,g⟩:=p;obtain⟨hk,j,r⟩:=hk;have V:=zG9 v;have A:=zG9 g;have L:t.size*(M+40)<=1000*5000040:=Nat.mul_le_mul (by omega) (by omega)
  have O:u.size*(M+40)<=1000*5000040:=Nat.mul_le_mul (by omega) (by omega)
  have p1:=zC6 t.tg 1 t.told;have Y:=zC6 u.tg 2 u.told;have W:=zC6 t.tg 0 t.told;have X:=zC6 u.tg 1 u.told;have H:=C o d (by omega) (by omega) w v j
  have E:=B (o+t.size) d (by omega) (by omega) y g r
  rcases hk with rfl|rfl
  .refine Wf rfl<|Wf rfl<|Wf rfl<|Wf rfl<|Wf rfl<|Wf rfl<|Wt rfl (?_)
   refine zBV (zMi (m:=1) (.inr (.inl rfl)) w j (by omega) H) (We ?_ (zBV (zMi (m:=2) (.inr (.inr rfl)) y r (by omega) E) (We ?_ (Wb rfl))))
   all_goals simp only[QC,QL,QZ]
   all_goals omega
  .refine Wf rfl<|Wf rfl<|Wf rfl<|Wf rfl<|Wf rfl<|Wf rfl<|Wf rfl<|Wt rfl (?_)
   refine zBV (zMi (m:=0) (.inl rfl) w j (by omega) H) (We ?_ (zBV (zMi (m:=1) (.inr (.inl rfl)) y r (by omega) E) (We ?_ (Wb rfl))))
   all_goals simp only[QC,QL,QZ]
   all_goals omega
theorem zVu{s:List Nat}{x:FA}{i dp n p q:Int}{l:List AV}:zF5 s i dp n x.e x.f p q l=some (if x.ok=true then .qc [.agg [.qg 6 l],.agg [.int .i64 (ofNat 0),.int .i64 (ofNat 0)]]else .qc [.agg [.qa],.agg [.int .i64 x.e,.int .i64 x.f]]):=by
 have a:∀b:Bool,(match b with|true=>false|false=>true:Bool)=!b:=λb=>by cases b<;>rfl
 refine zf ?_
 rw[zRQ];refine Wa (λh=>Wb ?_) λh=>Wb ?_
 .have h:(!x.ok)=true:=by
   rw[←a]
   revert h
   unfold FA.ok;cases (x.e==0&&x.f==0)<;>intro h<;>first|rfl|exact h
  rw[if_neg (λd=>by rw[d]at h;cases h)]
 .have h:(!x.ok)=false:=by
   rw[←a]
   revert h
   unfold FA.ok;cases (x.e==0&&x.f==0)<;>intro h<;>first|rfl|exact h
  rw[if_pos (by simpa using h)]
theorem zP8{s:List Nat}{x:FA}{i dp n p q:Int}{l:List AV}(hx:x.ok=false):zHU s i dp n x.e x.f p q l=some (.qc [.agg [.qa],.agg [.int .i64 x.e,.int .i64 x.f]]):=by
 refine zf ?_
 rw[zMm];refine Wa (λh=>?_) λ_=>?_
 .have h:x.ok=true:=h;rw[hx]at h;cases h
 .rw[zVu,if_neg (by rw[hx];decide)]
  exact Wb rfl
theorem zQK(s:List Nat)(h8:∀c∈s,c<256):zN0 s=some (zTU (zGB s)):=by
 refine zf ?_
 rw[zU4];unfold zGB;refine Wc (λh=>Wb ?_) λh=>?_
 .rw[if_pos (by rw[qJ]at h;omega)];rfl
 have hs:s.length<=1024:=by rw[qJ]at h;omega
 have d:s.length<=65536:=by omega
 rw[if_neg (by omega)]
 obtain⟨v,u,D⟩:=zgq d h8 ze [] 0 0 (Qm (zk (by omega))) ⟨QI _,by omega,QA _⟩
 rcases D.cases with⟨i,n,t,j,rfl⟩|⟨e,f,j,g,y,i,B,A,F,z,rfl⟩|⟨y,i,A,F,j,w,C,E,rfl⟩
 .rw[j];obtain⟨g1,g2,g3,g4,g5⟩:=zRE s 32 _ _ _ _ _ (QI _) (by omega) j
  have hk:=zBi g2;have p:=t.size_pos;refine adI u (adU (zDV d ⟨0,0⟩ _ _ _ i g2) (Wd (λb=>?_) λk=>?_))
  .refine adU (zGC ⟨0,0⟩ _ _ _ 5 _ _) ?_
   rw[FA.qt rfl,zP8 (x:=⟨5,ofNat (sk s i)⟩) (fa5 _)];show Wp _ λv=>v=zTU (if sk s i<s.length then .error (5,ofNat (sk s i))else if 1024<t.told.length then .error (3,Int.negSucc 0)else .ok t)
   rw[if_pos b];exact Wb rfl
  .show Wp _ λv=>v=zTU (if sk s i<s.length then .error (5,ofNat (sk s i))else if 1024<t.told.length then .error (3,Int.negSucc 0)else .ok t)
   rw[if_neg (by omega),zMm]
   refine Wt rfl (?_)
   have q:([]++t.fl ([]:List AV).length:List AV).length=t.size:=by rw[List.nil_append,RT.fl_length]
   have a:=zWq (es:=[]++t.fl ([]:List AV).length) (M:=56) (by decide) t 0 ze (Qm (zk (by omega))) (by omega) (Seg.whole t) g5.bd.1 g5.kd
   rw[QY]at a;rw[q,zA8 p (by omega)]
   refine zBV a (Wc (λh=>adU (zGC ⟨0,0⟩ _ _ _ 3 _ _) ?_) λh=>?_)
   .rw[if_pos (by rw[qJ]at h;omega),FA.qt rfl,zVu (x:=⟨3,Int.negSucc 0⟩),if_neg (by decide)]
    exact Wb rfl
   .rw[if_neg (by rw[qJ]at h;omega),zVu (x:=⟨0,0⟩),if_pos (show(FA.mk 0 0).ok=true from rfl)]
    exact Wb rfl
 .rw[j];have hk:=zBi z;refine adI u (adU (zDV d ⟨e,f⟩ _ _ _ i z) (Wd (λb=>adU (zGC ⟨e,f⟩ _ _ _ 5 _ _) ?_) λk=>?_))
  .rw[FA.qG g,zP8 g];exact Wb rfl
  .rw[zP8 (x:=⟨e,f⟩) g];exact Wb rfl
 .rw[j];have b:=zLw w;have r:=zNe (zNi w);refine adI u (adU (zDV d ⟨0,0⟩ _ _ _ i (by omega)) ?_)
  rw[r];refine Wd (λ_=>adU (zGC ⟨0,0⟩ _ _ _ 5 _ _) ?_) λk=>absurd b (by omega)
  rw[FA.qt rfl,zP8 (x:=⟨5,ofNat i⟩) (fa5 _)];exact Wb rfl
abbrev uAV(s:List Nat)(a b c d e f:Int)(t:List Nat)(g:Bool):AV:=.agg [.str s,.int .i64 a,.int .i64 b,.int .i64 c,.int .i64 d,.int .i64 e,.int .i64 f,.str t,.bool g]
abbrev isE(v:AV):Prop:=∃n,v=.int .i64 n/\True
theorem zFS{n k:Nat}(h:n<=2000001)(hk:k<=200):n*k<=zg/\n<=zg:=by
 have:n*k<=2000001*200:=Nat.mul_le_mul h hk;unfold zg;omega
def within(a b c d x y z u:Int):Prop:=okA a b c d->okA x y z u/\x<=a/\y<=b/\z<=c/\u<=d
abbrev zhU(k:Int)(s t:List Nat)(n l r:Int):AV:=.agg [.int .i64 k,.str s,.str t,.int .i64 n,.int .i64 l,.int .i64 r]
def Nds(es:List AV):Prop:=(∀e∈es,∃k s t n l r,e=zhU k s t n l r/\-9223372036854775808<=n/\n<=9223372036854775807/\tx 2000000 s/\tx 2000000 t)/\es.length<=2000000
noncomputable instance:DecidableEq AV:=λ_ _=>Classical.propDecidable _
def ue(es:List AV):Prop:=∀e∈es,∃k a b n l r,e=nd6 k a b n l r
theorem zGD:∀(t:RT)(o:Nat),ue (t.fl o)
 |.leaf k a b n,o=>λe d=>by rw[RT.fl,Qa]at d;exact⟨_,_,_,_,_,_,d⟩
 |.not t,o=>λe d=>by
  rw[RT.fl,QK,Qa]at d;rcases d with d|d
  .exact zGD t o e d
  .exact⟨_,_,_,_,_,_,d⟩
 |.two k t u,o=>λe d=>by
  rw[RT.fl,QK,QK,Qa]at d;rcases d with(d|d)|d
  .exact zGD t o e d
  .exact zGD u _ e d
  .exact⟨_,_,_,_,_,_,d⟩
theorem zdR(k h n n' l f r d:Int)(a e b g:List Nat):(k==h&&(zo a e&&(zo b g&&(n==n'&&(l==f&&r==d)))))=decide (nd6 k a b n l r=nd6 h e g n' f d):=by
 rw[zY,zY,Bool.eq_iff_iff];simp
theorem zL5{es a:List AV}{i:Nat}(h1:i<es.length)(b:i<a.length):es.drop i=a.drop i↔es[i]=a[i]/\es.drop (i+1)=a.drop (i+1):=by
 rw[QO h1,QO b];exact List.cons_eq_cons
theorem zTu(es g:List AV)(h:ue es)(h':ue g)(E:es.length<=2000000):zAd es g=some (.bool (decide (es=g))):=by
 have loop:es.length=g.length->∀(n i:Nat),i<=es.length->es.length-i<n->zA0 n es g (ofNat es.length) (ofNat i)=some (.bool (decide (es.drop i=g.drop i))):=by
  intro C n
  induction n with
  |zero=>intro i _ h;omega
  |succ n D=>
   intro i F G;refine zf ?_
   rw[zHK];refine Wd (λf=>?_) λj=>Wb ?_
   .have d:i<g.length:=C▸f
    obtain⟨k,a,b,m,p,q,y⟩:=h _ (QR f);obtain⟨u,t,r,w,z,A,v⟩:=h' _ (QR d);refine zE1 ((zAS f).trans (congrArg some y)) (zE1 ((zAS d).trans (congrArg some v)) ?_)
    rw[zdR];refine Wa (λhc=>Wb ?_) λhc=>?_
    .have hc:(!decide (nd6 k a b m p q=nd6 u t r w z A))=true:=hc;rw[QJ];rw[zL5 f d,y,v];intro B;rw[QM B.1]at hc;cases hc
    .have hc:(!decide (nd6 k a b m p q=nd6 u t r w z A))=false:=hc;rw[zd (by omega),D (i+1) f (by omega)]
     refine Wb (congrArg AV.bool (decide_eq_decide.2 ?_))
     rw[zL5 f d,y,v];have:nd6 k a b m p q=nd6 u t r w z A:=by simpa using hc
     exact⟨λh=>⟨this,h⟩,λh=>h.2⟩
   .rw[QW j,QW (by omega)];simp
 refine zf ?_
 rw[zIQ];refine Wa (λhc=>Wb ?_) λhc=>?_
 .have hc:(!(ofNat es.length==ofNat g.length))=true:=hc;have hc:es.length≠g.length:=λe=>by rw[e]at hc;simp at hc
  rw[QJ λe=>hc (congrArg _ e)]
 .have hc:(!(ofNat es.length==ofNat g.length))=false:=hc;have hc:es.length=g.length:=by
   have:(ofNat es.length==ofNat g.length)=true:=by simpa using hc
   exact zIu.1 this
  have:=loop hc ze 0 (QI _) (zk (by omega))
  rw[List.drop_zero,List.drop_zero]at this;exact⟨_,this,rfl⟩
theorem zP9(es g:List AV)(h:ue es)(h':ue g)(E:es.length<=2000000):zBA es g=some (.bool (decide (es=g))):=by
 have loop:es.length=g.length->∀(n i:Nat),i<=es.length->es.length-i<n->zCZ n (ofNat i) es g=some (.bool (decide (es.drop i=g.drop i))):=by
  intro C n
  induction n with
  |zero=>intro i _ h;omega
  |succ n D=>
   intro i F G;refine zf ?_
   rw[zLf];refine Wd (λf=>?_) λj=>Wb ?_
   .have d:i<g.length:=C▸f
    obtain⟨k,a,b,m,p,q,y⟩:=h _ (QR f);obtain⟨u,t,r,w,z,A,v⟩:=h' _ (QR d);refine zE1 ((zAS f).trans (congrArg some y)) (zE1 ((zAS d).trans (congrArg some v)) ?_)
    rw[zdR];refine Wa (λhc=>Wb ?_) λhc=>?_
    .have hc:(!decide (nd6 k a b m p q=nd6 u t r w z A))=true:=hc;rw[QJ];rw[zL5 f d,y,v];intro B;rw[QM B.1]at hc;cases hc
    .have hc:(!decide (nd6 k a b m p q=nd6 u t r w z A))=false:=hc;rw[zd (by omega),D (i+1) f (by omega)]
     refine Wb (congrArg AV.bool (decide_eq_decide.2 ?_))
     rw[zL5 f d,y,v];have:nd6 k a b m p q=nd6 u t r w z A:=by simpa using hc
     exact⟨λh=>⟨this,h⟩,λh=>h.2⟩
   .rw[QW j,QW (by omega)];simp
 refine zf ?_
 rw[zMN];refine Wa (λhc=>Wb ?_) λhc=>?_
 .have hc:(!(ofNat es.length==ofNat g.length))=true:=hc;have hc:es.length≠g.length:=λe=>by rw[e]at hc;simp at hc
  rw[QJ λe=>hc (congrArg _ e)]
 .have hc:(!(ofNat es.length==ofNat g.length))=false:=hc;have hc:es.length=g.length:=by
   have:(ofNat es.length==ofNat g.length)=true:=by simpa using hc
   exact zIu.1 this
  have:=loop hc ze 0 (QI _) (zk (by omega))
  rw[List.drop_zero,List.drop_zero]at this;exact⟨_,this,rfl⟩
def updF(f:Nat->Int)(a:Nat)(v:Int):Nat->Int:=λj=>if j=a then v else f j
theorem zSt{f:Nat->Int}{a:Nat}{v:Int}:updF f a v a=v:=if_pos rfl
theorem zGE{f:Nat->Int}{a j:Nat}{v:Int}(h:j≠a):updF f a v j=f j:=if_neg h
def UsI(us:List AV)(c:Nat->Int)(m:Nat):Prop:=us.length=m/\∀j,j<m->us[j]?=some (.int .i64 (c j))
theorem zWY{us:List AV}{j:Nat}{x:Int}(h:us[j]?=some (.int .i64 x)):ldE us (Int.toNat (ofNat j)) 0 1 false=some (.int .i64 x):=by
 show(match us[j]? with|some e=>Go.Sy.part e.cells 0 1 false|none=>none)=_
 rw[h];rfl
theorem UsI.set{us:List AV}{c:Nat->Int}{m a:Nat}(h:UsI us c m)(f:a<m)(x:Int):UsI (us.set a (.int .i64 x)) (updF c a x) m:=by
 refine⟨by rw[List.length_set];exact h.1,λj b=>?_⟩
 by_cases e:j=a
 .subst e;rw[zSt,List.getElem?_set_self (by rw[h.1];exact b)]
 .rw[zGE e,List.getElem?_set_ne (λd=>e d.symm)]
  exact h.2 j b
section
variable{es us parts:List AV}{n27 n i x m:Nat}{c:Nat->Int}{P:AV->Prop}
theorem zVv(f:UsI us c m){a:Nat}(hx:parts[x]?=some (.int .i64 (ofNat a)))(j:x<5)(k:a<i)(q:i<=m)(hc:c a=0)(t23 t24:Int)(t22:List AV)
  (h:Wp (zBb n27 n es (ofNat i) t22 t23 t24 (ofNat parts.length) (ofNat (x+1)) (us.set a (.int .i64 1)) parts) P):Wp (zBb n27 (n+1) es (ofNat i) t22 t23 t24 (ofNat parts.length) (ofNat x) us parts) P:=by
 have b:x<parts.length:=(QB.1 hx).1;rw[zET];refine Wd (λ_=>zHT b (qk_i (zWY hx) (Wc (λe=>?_) λp=>Wc (λe=>?_) λh1=>?_))) λg=>absurd b (by omega)
 .rw[qJ]at e;omega
 .rw[qJ,qJ]at e;omega
 .have d:a<us.length:=by rw[f.1];omega
  refine zHT d (qk_i (zWY (f.2 a (by omega))) (zHT d ?_))
  rw[zd (by omega),hc]
  exact h
theorem zX4(hx:x=parts.length)(a:i<1000)(t22:List AV)(t23:Int)(h:Wp (zBP n27 es t22 t23 (ofNat (i+1)) us) P):Wp (zBb n27 (n+1) es (ofNat i) t22 t23 (ofNat i) (ofNat parts.length) (ofNat x) us parts) P:=by
 rw[zET];refine Wd (λh=>absurd h (by omega)) λ_=>?_
 rw[zd (by omega)]
 exact h
theorem zau:ze=1180591620717411303421+1+1+1:=zE3
end
def zhK(c c':Nat->Int)(t:RT)(o:Nat):Prop:=(∀j,j<o->c' j=c j)/\(∀j,o<=j->j<o+t.size-1->c' j=1)/\∀j,o+t.size-1<=j->c' j=0
theorem zav{es:List AV}{P:AV->Prop}(ab:es.length<=64):∀(t:RT)(o n:Nat)(us:List AV)(c:Nat->Int),Seg es t o->t.kd->o+t.size<=es.length->UsI us c es.length->(∀j,o<=j->c j=0) →
  (∀q c',UsI q c' es.length->zhK c c' t o->Wp (zBP n es es (ofNat es.length) (ofNat (o+t.size)) q) P)->Wp (zBP (n+t.size) es es (ofNat es.length) (ofNat o) us) P:=by
 intro t
 induction t with
 |leaf k a b m=>
  intro o n us c hs hk g E hc h;have d:(RT.leaf k a b m).size=1:=rfl;have W:1<=k:=hk.1;have aa:k<=6:=hk.2;rw[d]at g h⊢;rw[zDz];refine Wd (λ_=>zBj hs.leaf (Wa (λv=>?_) λ_=>Wa (λv=>?_) λ_=>?_)) λv=>by omega
  .have:k=7:=by simpa using v
   omega
  .have:k=8:=by simpa using v
   omega
  .have X:(k==9)=false:=by simp;omega
   rw[X,zHI];refine Wf rfl<|Wf rfl<|Wf rfl<|?_
   rw[zCN,zau];refine zX4 rfl (by omega) _ _ (h us c E ⟨λj _=>rfl,λj h1 C=>?_,λj h1=>hc j ?_⟩)
   .rw[d]at C;omega
   .rw[d]at h1;omega
 |not t ih=>
  intro o n us c hs hk g E hc h;have d:(RT.not t).size=t.size+1:=rfl;have R:=t.size_pos;obtain⟨K,J⟩:=hs.not;rw[d]at g;rw[d,show n+(t.size+1)=(n+1)+t.size by omega]
  refine ih o (n+1) us c K hk (by omega) E hc λq c' D G=>?_
  rw[zDz];refine Wd (λ_=>zBj J (Wt rfl (Wf rfl<|?_))) λv=>by omega
  rw[zCN,zau];refine zVv (parts:=[.int .i64 (ofNat (o+t.size-1))]) (x:=0) D (a:=o+t.size-1) rfl (by omega) (by omega) (by omega) (G.2.2 _ (QA _)) _ _ _ ?_
  refine zX4 rfl (by omega) _ _ (h _ (updF c' (o+t.size-1) 1) (D.set (by omega) 1) ⟨λj F=>?_,λj h1 C=>?_,λj h1=>?_⟩)
  .rw[zGE (by omega)];exact G.1 j F
  .rw[d]at C;by_cases e:j=o+t.size-1
   .rw[e,zSt]
   .rw[zGE e];exact G.2.1 j h1 (by omega)
  .rw[d]at h1;rw[zGE (by omega)];exact G.2.2 j (by omega)
 |two k t u L I=>
  intro o n us c hs hk g E hc h;have d:(RT.two k t u).size=t.size+u.size+1:=rfl;have V:=t.size_pos;have Y:=u.size_pos;obtain⟨K,J,s3⟩:=hs.two;rw[d]at g;rw[show o+(RT.two k t u).size=o+t.size+u.size+1 by omega]at h
  rw[d,show n+(t.size+u.size+1)=(n+1+u.size)+t.size by omega]
  refine L o (n+1+u.size) us c K hk.2.1 (by omega) E hc λM c1 H p=>?_
  refine I (o+t.size) (n+1) M c1 J hk.2.2 (by omega) H (λj F=>p.2.2 j (by omega)) λw c2 r f=>?_
  rw[zDz];have two:Wp (zC7 n es (ofNat (o+t.size+u.size)) es (ofNat es.length) (ofNat (o+t.size+u.size)) w [.int .i64 (ofNat (o+t.size-1)),.int .i64 (ofNat (o+t.size+u.size-1))]) P:=by
   rw[zCN,zau];have c21:c2 (o+t.size-1)=0:=by rw[f.1 _ (by omega)];exact p.2.2 _ (QA _)
   have Q:c2 (o+t.size+u.size-1)=0:=f.2.2 _ (QA _);refine zVv (parts:=[.int .i64 (ofNat (o+t.size-1)),.int .i64 (ofNat (o+t.size+u.size-1))]) (x:=0) r (a:=o+t.size-1) rfl (by omega) (by omega) (by omega) c21 _ _ _ ?_
   refine zVv (parts:=[.int .i64 (ofNat (o+t.size-1)),.int .i64 (ofNat (o+t.size+u.size-1))]) (x:=1) (r.set (by omega) 1) (a:=o+t.size+u.size-1) rfl (by omega) (by omega) (by omega) (by rw[zGE (by omega)];exact Q) _ _ _ ?_
   refine zX4 rfl (by omega) _ _ (h _ (updF (updF c2 (o+t.size-1) 1) (o+t.size+u.size-1) 1) ((r.set (by omega) 1).set (by omega) 1) ⟨λj F=>?_,λj h1 C=>?_,λj h1=>?_⟩)
   .rw[zGE (by omega),zGE (by omega),f.1 j (by omega)];exact p.1 j F
   .rw[d]at C;by_cases U:j=o+t.size+u.size-1
    .rw[U,zSt]
    .rw[zGE U];by_cases T:j=o+t.size-1
     .rw[T,zSt]
     .rw[zGE T];by_cases e3:j<o+t.size
      .rw[f.1 j e3];exact p.2.1 j h1 (by omega)
      .exact f.2.1 j (by omega) (by omega)
   .rw[d]at h1;rw[zGE (by omega),zGE (by omega)];exact f.2.2 j (by omega)
  have S:∀(A B:List Nat)(x y z:Int),x=ofNat 0->y=ofNat (o+t.size-1)->z=ofNat (o+t.size+u.size-1)->Wp (zFb n es (ofNat (o+t.size+u.size)) es (ofNat es.length) (ofNat (o+t.size+u.size)) true k A B x y z w []) P:=λA B x y z hx hy O=>by
   subst hy;subst O;rw[zHI];exact Wt rfl (two)
  refine Wd (λ_=>zBj s3 ?_) λv=>by omega
  rcases hk.1 with rfl|rfl
  .exact Wf rfl<|Wt rfl (S _ _ _ _ _ rfl rfl rfl)
  .exact Wf rfl<|Wf rfl<|S _ _ _ _ _ rfl rfl rfl
theorem zb0(t:RT)(hk:t.kd)(q:t.size<=64):zJB (t.fl 0)=some (.bool true):=by
 have d:(t.fl 0).length=t.size:=t.fl_length 0;have f:=t.size_pos;refine zf ?_
 rw[zN4,d];refine Wc (λh=>?_) λ_=>Wc (λh=>?_) λ_=>?_
 .rw[qJ]at h;omega
 .rw[qJ]at h;omega
 rw[zLm,d];have p:Int.toNat (ofNat t.size)=t.size:=rfl;refine We ⟨QU _,Int.le_refl _,?_,?_⟩ ?_
 .rw[p];unfold zg;omega
 .rw[p];unfold zg;omega
 rw[p];obtain⟨N,A⟩:∃N,ze=(N+1)+t.size:=⟨ze-t.size-1,by have:=zk (n:=1000) (by omega);omega⟩
 rw[A];have:=zav (es:=t.fl 0) (P:=λv=>v=.bool true) (by rw[d];exact q) t 0 (N+1) (List.replicate t.size (.int .i64 0)) (λ_=>0) (Seg.whole t) hk (by rw[d];omega) ⟨by rw[d,List.length_replicate],λj r=>?_⟩ (λ_ _=>rfl) λg B a u=>?_
 .rw[d]at this;exact this
 .rw[d]at r;exact QB.2 ⟨by rw[List.length_replicate];exact r,by rw[List.getElem_replicate]⟩
 .rw[d]at a⊢;rw[zDz];refine Wd (λh=>by omega) λ_=>?_
  have k:∀(n i:Nat),i<=t.size->t.size-i<n->Wp (zDG n (t.fl 0) (ofNat t.size) (ofNat i) g) λv=>v=.bool true:=by
   intro n
   induction n with
   |zero=>intro i _ h;omega
   |succ n w=>
    intro i C D;have e:wrapx .i64 (ofNat t.size-1)=ofNat (t.size-1):=zA8 f (by omega)
    rw[zKJ,d,a.1,e];refine Wd (λb=>zHT b (qk_i (zWY (a.2 i b)) ?_)) λy=>zHT (by omega) (qk_i (zWY (a.2 _ (by omega))) (Wb ?_))
    .rw[zd (by omega)]
     refine Wd (λz=>Wa (λh=>?_) λ_=>w (i+1) b (by omega)) λ_=>w (i+1) b (by omega)
     rw[u.2.1 i (QI _) (by omega)]at h
     cases h
    .rw[u.2.2 (t.size-1) (by omega)];rfl
  rw[a.1];exact k ze 0 (QI _) (zk (by omega))
theorem zNj{s:List Nat}(h8:∀c∈s,c<256){e f:Int}(h:zGB s=.error (e,f)):(e==0&&f==0)=false:=by
 unfold zGB at h;split at h
 .cases h;rfl
 rename_i p;have b:s.length<=65536:=by omega
 obtain⟨v,r,g⟩:=zgq b h8 ze [] 0 0 (Qm (zk (by omega))) ⟨QI _,by omega,QA _⟩
 rcases g.cases with⟨i,n,t,a,_⟩|⟨k,q,a,d,_⟩|⟨y,i,j,u,a,_⟩
 .rw[a]at h;simp only at h;split at h
  .cases h;rfl
  .split at h
   .cases h;rfl
   .cases h
 .rw[a]at h;cases h;exact d
 .rw[a]at h;cases h;rfl
def RT.by(f:Nat->Prop):RT->Prop
 |.leaf k a b n=>(∀c∈a,f c)/\∀c∈b,f c
 |.not t=>t.by f
 |.two k t u=>t.by f/\u.by f
theorem zVw{c:Nat}(h:namB c=true):zJk c:=by
 unfold namB zAb zt at h;simp at h;unfold zJk;omega
theorem ze7{c:Nat}(h:wrdB c=true):zJk c:=by
 have h:=QP h;unfold zJk;omega
theorem RT.wf.by{t:RT}(h:t.wf):t.by zJk:=by
 induction t with
 |leaf k a b n=>
  rcases h with⟨_,rfl,rfl,_⟩|⟨h1,_,⟨_,f,_⟩|⟨_,rfl,_⟩|⟨_,rfl,_⟩⟩
  .exact⟨λc h=>(by cases h),λc h=>(by cases h)⟩
  .exact⟨λc hc=>zVw (h1.2.2 c hc),λc hc=>ze7 (f.2.2 c hc)⟩
  .exact⟨λc hc=>zVw (h1.2.2 c hc),λc h=>(by cases h)⟩
  .exact⟨λc hc=>zVw (h1.2.2 c hc),λc h=>(by cases h)⟩
 |not t g=>exact g h
 |two k t u e d=>exact⟨e h.2.1,d h.2.2⟩
theorem zZD(n:Int):okS (decI n):=by
 unfold decI Lib.itoa;split
 .intro c hc;rcases QH.1 hc with rfl|hc
  .decide
  .exact zOK _ c hc
 .exact zOK _
theorem zSu{f:Nat->Prop}(e:∀c,zJk c->f c):∀{t:RT},t.by f->∀c∈t.told,f c
 |.leaf k a b n,h=>λc hc=>by
  have v:∀c∈decI n,f c:=λc hc=>e c (zZD n c hc)
  have d:∀l:List Nat,l.all (λc=>decide (zJk c))=true->∀c∈l,f c:=λl d c hc=>e c (QP (QD.1 d c hc))
  have app:∀{x y:List Nat},(∀c∈x,f c)->(∀c∈y,f c)->∀c∈x++y,f c:=λr q c hc=>(QK.1 hc).elim (r c) (q c)
  have hc:c∈zL4 k a b n:=hc;unfold zL4 at hc;split at hc
  .exact d _ rfl c hc
  split at hc
  .exact app (app h.1 (d _ rfl)) h.2 c hc
  split at hc
  .exact app (app h.1 (d _ rfl)) h.2 c hc
  split at hc
  .exact app (app h.1 (d _ rfl)) v c hc
  split at hc
  .exact app (app h.1 (d _ rfl)) v c hc
  .exact h.1 c hc
 |.not t,h=>by
  have d:∀l:List Nat,l.all (λc=>decide (zJk c))=true->∀c∈l,f c:=λl d c hc=>e c (QP (QD.1 d c hc))
  have app:∀{x y:List Nat},(∀c∈x,f c)->(∀c∈y,f c)->∀c∈x++y,f c:=λr q c hc=>(QK.1 hc).elim (r c) (q c)
  have j:∀(g m:Int)(w:List Nat),(∀c∈w,f c)->∀c∈parT g m w,f c:=λg m w p=>by
   unfold parT;split
   .exact app (app (d _ rfl) p) (d _ rfl)
   .exact p
  exact app (d _ rfl) (j _ _ _ (zSu (t:=t) e h))
 |.two k t u,h=>by
  have d:∀l:List Nat,l.all (λc=>decide (zJk c))=true->∀c∈l,f c:=λl d c hc=>e c (QP (QD.1 d c hc))
  have app:∀{x y:List Nat},(∀c∈x,f c)->(∀c∈y,f c)->∀c∈x++y,f c:=λr q c hc=>(QK.1 hc).elim (r c) (q c)
  have j:∀(g m:Int)(w:List Nat),(∀c∈w,f c)->∀c∈parT g m w,f c:=λg m w p=>by
   unfold parT;split
   .exact app (app (d _ rfl) p) (d _ rfl)
   .exact p
  have h1:=zSu (t:=t) e h.1;have z:=zSu (t:=u) e h.2;rw[RT.told];split
  .exact app (app (j _ _ _ h1) (d _ rfl)) (j _ _ _ z)
  .exact app (app (j _ _ _ h1) (d _ rfl)) (j _ _ _ z)
theorem RT.wf.h8{t:RT}(h:t.wf):∀c∈t.told,c<256:=λc hc=>by
 exact zSu (f:=zJk) (λc h=>h) h.by c hc
noncomputable def zYy(t:RT):Int:=match zGB t.told with
 |.ok u=>if u.fl 0=t.fl 0 then 0 else 2
 |.error _=>2
theorem zWB(t:RT)(d:t.wf)(j:t.size<=64):zDs (t.fl 0)=some (.int .i64 (zYy t)):=by
 have k:(t.fl 0).length=t.size:=t.fl_length 0;have g:=t.size_pos;refine zf ?_
 rw[zOP];refine qk_b (zb0 t d.kd j) (Wf rfl<|?_)
 have a:=zWq (es:=t.fl 0) (M:=56) (by decide) t 0 ze (Qm (zk (by omega))) (by omega) (Seg.whole t) d.bd.1 d.kd
 rw[QY]at a;rw[k,zA8 g (by omega)]
 refine zBV a ?_
 rw[zQK _ d.h8];unfold zYy;cases hp:zGB t.told with
 |error e=>
  obtain⟨e,f⟩:=e;have p:=zNj d.h8 hp;show Wp (br (!(e==0&&f==0)) _ _) _
  rw[p];exact Wb rfl
 |ok u=>
  obtain⟨v,r,q⟩:=zOI hp;show Wp (dK true [K.b] (zAd (u.fl 0) (t.fl 0)) _) _
  refine qk_b (zTu _ _ (zGD u 0) (zGD t 0) (by rw[RT.fl_length];omega)) (Wa (λh=>Wb ?_) λh=>Wb ?_)
  .show _=AV.int .i64 (if u.fl 0=t.fl 0 then 0 else 2)
   rw[if_neg (by simpa using h)];rfl
  .show _=AV.int .i64 (if u.fl 0=t.fl 0 then 0 else 2)
   rw[if_pos (by simpa using h)];rfl
end Go.Proofs.YtfiahaglhiijaaaGreatDoor.score
