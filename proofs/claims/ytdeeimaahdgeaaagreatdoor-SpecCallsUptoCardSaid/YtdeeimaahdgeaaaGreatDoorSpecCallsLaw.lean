/- THE LAW OF THE LEAN FUNCTIONS, IN PLAIN LEAN: part 2. No condition. -/
import Derived.Test.YtdeeimaahdgeaaaGreatDoorSpecCallsLawA
set_option linter.unusedVariables false
set_option linter.unusedSimpArgs false
set_option linter.unusedSectionVars false
namespace Go.Proofs.YtdeeimaahdgeaaaGreatDoor.spec
open Go Go.Sy
variable [MX]
section
variable {s:List Nat} {l:List AV} {dp:Int} (hs:s.length<=65536) (h8:∀c∈s,c<256)
include hs h8
theorem zO7 {i:Nat} (e:i<s.length):zDN (Int.ofNat s[i])=some (.bool (isAt wrdB s i)):=by
 rw [zAX e];exact zO5 _ (h8 _ (Qn e))
theorem zWy (i n:Nat) (M:i<=s.length) (X:n<=64) (V:l.length<=n):Wp (zDV s (Int.ofNat i) dp (Int.ofNat n) 0 0 l) (OutA s l dp n (zC8 s i n)):=by
 have I:l.length<=64:=by omega
 have hr:=zDR namB s i M;have y:i+min 24 (rn namB s i)<=s.length:=by omega
 have p:∀{j:Nat},j<=s.length->Wp (dD true [D.v (K.qf 0),D.hc 0 false 7,D.v K.s,D.v (K.i IntKind.i64),D.v (K.i IntKind.i64),D.v (K.i IntKind.i64),D.v (K.c (AV.sym 0)),D.v (K.i IntKind.i64),D.v (K.i IntKind.i64),D.vec 0 6] (zD (Int.ofNat 5) (Int.ofNat j) s (Int.ofNat j) dp (Int.ofNat n) 0 0 l) λ S Q n6 U W T H=>some (AV.int IntKind.i64 (Int.negSucc 0),[(0,HO.cells false [AV.str S,AV.int IntKind.i64 Q,AV.int IntKind.i64 n6,AV.int IntKind.i64 U,AV.sym 0,AV.int IntKind.i64 W,AV.int IntKind.i64 T])],[(0,VI.vec 6 H)])) (OutA s l dp n (.error (5,Int.ofNat j))):=λ{j} Y=>by
  refine adU (zEf ⟨0,0⟩ dp (Int.ofNat n) l 5 _ _) ?_
  rw [FA.qt rfl];exact Wp.mk (.inl ⟨fa5 _,_,_,_,_,_,Y,rfl⟩)
 have O:∀b:Bool,b=isAt wrdB s (i+min 24 (rn namB s i))->isAt lowB s i=true->(isAt wrdB s (i+min 24 (rn namB s i))=false->cutS s i (i+min 24 (rn namB s i))≠[97,110,121])->Wp (zCP (Int.ofNat i) (cutS s i (i+min 24 (rn namB s i))) b s (Int.ofNat (i+min 24 (rn namB s i))) dp (Int.ofNat n) 0 0 l) (OutA s l dp n (zC8 s i n)):=λ b g e q=>by
  rw [zJl];unfold zC8;rw [if_neg (by rw [e];decide)]
  refine Wp.if (λ h=>?_) λ h=>?_
  ·rw [if_pos (by rw [←g];exact h)]
   exact p y
  ·rw [if_neg (by rw [←g,h];decide),if_neg (q (by rw [←g];exact h))]
   exact zTo hs h8 _ _ n _ y X V
 have j2:isAt lowB s i=true->(isAt wrdB s (i+min 24 (rn namB s i))=false->cutS s i (i+min 24 (rn namB s i))≠[97,110,121])->Wp (zEj (Int.ofNat i) (cutS s i (i+min 24 (rn namB s i))) s (Int.ofNat (i+min 24 (rn namB s i))) dp (Int.ofNat n) 0 0 l) (OutA s l dp n (zC8 s i n)):=λ e q=>by
  rw [zJm];refine Wp.lt (λ f=>Wp.bd (R:=λ c=>c=s[i+min 24 (rn namB s i)]) ⟨_,zA4 f,rfl⟩ λ c hc=>?_) λ w=>O _ (zCb w).symm e q
  subst hc;exact qk_b (zO7 hs h8 f) (O _ rfl e q)
 have F:∀b:Bool,b=decide (cutS s i (i+min 24 (rn namB s i))=[97,110,121]/\isAt wrdB s (i+min 24 (rn namB s i))=false)->isAt lowB s i=true->Wp (zB3 (Int.ofNat i) (cutS s i (i+min 24 (rn namB s i))) b s (Int.ofNat (i+min 24 (rn namB s i))) dp (Int.ofNat n) 0 0 l) (OutA s l dp n (zC8 s i n)):=λ b g e=>by
  rw [zJs];refine Wp.if (λ h=>adU (zKs ⟨0,0⟩ dp (Int.ofNat n) l _ _) ?_) λ h=>?_
  ·rw [h] at g;obtain ⟨z,C⟩:=QO g.symm;unfold zC8;rw [if_neg (show ¬isAt lowB s i=false by rw [e];decide),if_neg (show ¬isAt wrdB s (i+min 24 (rn namB s i))=true by rw [C];decide),zf (by omega)]
   by_cases A:64<n+1
   ·rw [if_pos (show (64:Int)<Int.ofNat (n+1) by rw [qr];omega),if_pos A,FA.qt rfl]
    exact adI (zDU ⟨3,Int.ofNat i⟩ dp _ l _ _ _ _ _ _ _ (fa3 _)) (Wp.mk (.inl ⟨fa3 _,_,_,_,_,_,y,rfl⟩))
   ·rw [if_neg (show ¬(64:Int)<Int.ofNat (n+1) by rw [qr];omega),if_neg A,if_pos z]
    refine adI (zEr ⟨0,0⟩ dp _ l _ _ _ _ _ _ _ rfl I) (Wp.mk ?_)
    show _=outA (.int .i64 (Int.ofNat (l.length+(RT.leaf 1 [] [] 0).size-1))) s _ _ _ _ _
    rw [zFh];rfl
  ·rw [h] at g;have g:=Qq g.symm;exact j2 e λ z C=>g ⟨C,z⟩
 have E:∀b:Bool,b=!isAt lowB s i->Wp (zB4 (Int.ofNat i) b s (Int.ofNat i) dp (Int.ofNat n) 0 0 l) (OutA s l dp n (zC8 s i n)):=λ b g=>by
  rw [zJo];refine Wp.if (λ h=>?_) λ h=>?_
  ·have e:isAt lowB s i=false:=by rw [h] at g;simpa using g
   unfold zC8;rw [if_pos e];exact p M
  ·have e:isAt lowB s i=true:=by rw [h] at g;simpa using g
   rw [zJn];refine adS (zSc hs ⟨0,0⟩ dp (Int.ofNat n) l 24 (by decide) i M) ?_
   rw [zAP];refine Wp.ite (λ B=>Wp.lt (λ f=>Wp.bd (R:=λ c=>c=s[i+min 24 (rn namB s i)]) ⟨_,zA4 f,rfl⟩ λ c hc=>?_) λ w=>F _ ?_ e) λ B=>F _ ?_ e
   ·subst hc;refine qk_b (zO7 hs h8 f) (F _ ?_ e)
    cases isAt wrdB s (i+min 24 (rn namB s i)) <;> simp [B]
   ·rw [zCb w];simp [B]
   ·simp [B]
 rw [zKy];refine Wp.if (λ h=>E _ ?_) λ h=>?_
 ·have h:i=s.length:=beqN.1 h;rw [zCb (by omega)];rfl
 ·have h:i≠s.length:=zIG.1 h;have f:i<s.length:=by omega
  refine Wp.bd (R:=λ c=>c=s[i]) ⟨_,zA4 f,rfl⟩ λ c hc=>Wp.ite (λ z=>E _ ?_) λ z=>Wp.bd (R:=λ c=>c=s[i]) ⟨_,zA4 f,rfl⟩ λ c2 J=>E _ ?_
  ·subst hc;rw [zAX f];unfold lowB;rw [QN (by rw [qr] at z;omega)];rfl
  ·subst hc;subst J;rw [zAX f];unfold lowB;rw [←decide_not];exact decide_eq_decide.2 (by rw [qr] at z ⊢;omega)
end
theorem zVI {s:List Nat} (hs:s.length<=65536) {x:FA} (hx:x.ok=false) {l:List AV} {dp n:Int} {d i:Nat} (g:i<=s.length):Wp (zAg (d+1) s (Int.ofNat i) dp n x.e x.f l) (zC4 s x):=by
 rw [zED];refine adU (zCr hs x dp n l i g) (Wp.if (λ _=>Wp.mk ⟨_,_,_,_,_,zAD g,rfl⟩) λ h=>?_)
 exfalso
 have h:(match x.ok with | true=>false | false=>true)=false:=by
  revert h
  unfold FA.ok;cases (x.e==0&&x.f==0) <;> intro h <;> first | rfl | exact h
 rw [hx] at h;cases h
abbrev PreA (s:List Nat) (l:List AV) (i n:Nat):Prop:=i<=s.length/\n<=64/\l.length<=n
def ANot (s:List Nat) (g:Nat):Prop:=∀(d:Nat) (l:List AV) (i n:Nat),5*g+1<=d->PreA s l i n->Wp (zAg d s (Int.ofNat i) (Int.ofNat (32-g)) (Int.ofNat n) 0 0 l) (OutA s l (Int.ofNat (32-g)) n (oneM s g i n))
def APN (s:List Nat) (g:Nat):Prop:=∀(d:Nat) (l:List AV) (i n:Nat),5*g+2<=d->PreA s l i n->Wp (zAt d [38] 8 s (Int.ofNat i) (Int.ofNat (32-g)) (Int.ofNat n) 0 0 l) (OutA s l (Int.ofNat (32-g)) n (andM s g i n))
def AAnd (s:List Nat) (g:Nat):Prop:=∀(d:Nat) (l:List AV) (i n:Nat),5*g+3<=d->PreA s l i n->Wp (zBx d s (Int.ofNat i) (Int.ofNat (32-g)) (Int.ofNat n) 0 0 l) (OutA s l (Int.ofNat (32-g)) n (andM s g i n))
def APA (s:List Nat) (g:Nat):Prop:=∀(d:Nat) (l:List AV) (i n:Nat),5*g+4<=d->PreA s l i n->Wp (zBo d [124] 9 s (Int.ofNat i) (Int.ofNat (32-g)) (Int.ofNat n) 0 0 l) (OutA s l (Int.ofNat (32-g)) n (orM s g i n))
def AOr (s:List Nat) (g:Nat):Prop:=∀(d:Nat) (l:List AV) (i n:Nat),5*g+5<=d->PreA s l i n->Wp (zEB d s (Int.ofNat i) (Int.ofNat (32-g)) (Int.ofNat n) 0 0 l) (OutA s l (Int.ofNat (32-g)) n (orM s g i n))
theorem OutA.cases {s:List Nat} {l:List AV} {dp:Int} {n0:Nat} {r:RE (Nat×Nat×RT)} {v:AV×Heap×Vecs} (q:OutA s l dp n0 r v):
  (∃i n t,r=.ok (i,n,t)/\v=outA (.int .i64 (Int.ofNat (l.length+t.size-1))) s (Int.ofNat i) dp (Int.ofNat n) ⟨0,0⟩ (l++t.fl l.length)) ∨
  (∃e f,r=.error (e,f)/\(FA.mk e f).ok=false/\∃(y:Int) (i:Nat) (j n:Int) (g:List AV),i<=s.length/\v=outA (.int .i64 y) s (Int.ofNat i) j n ⟨e,f⟩ g) ∨
  (∃(y:Int) (i n':Nat) (g:List AV),r=.error (5,Int.ofNat i)/\isAt wrdB s i=true/\n'<=64/\g.length+n0<=l.length+n'/\v=outA (.int .i64 y) s (Int.ofNat i) dp (Int.ofNat n') ⟨0,0⟩ g):=by
 cases r with
 | ok r=>obtain ⟨i,n,t⟩:=r;exact .inl ⟨i,n,t,rfl,q⟩
 | error e=>
  obtain ⟨e,f⟩:=e;rcases q with ⟨p,h⟩ | ⟨z,y,i,n',g,p,h,A,w,B⟩
  ·exact .inr (.inl ⟨e,f,rfl,p,h⟩)
  ·subst z;subst p;exact .inr (.inr ⟨y,i,n',g,rfl,h,A,w,B⟩)
theorem zN4 {s:List Nat} {x:FA} (hx:x.ok=false) {l:List AV} {dp n left:Int} {d N:Nat} {i:Nat} (g:i<=s.length) {t:List Nat} {k:Int}:Wp (zF d (N+1) t k left s (Int.ofNat i) dp n x.e x.f l) (zC4 s x):=by
 rw [zAG];refine Wp.if (λ h=>?_) λ _=>Wp.mk ⟨_,_,_,_,_,g,rfl⟩
 exfalso
 have h:x.ok=true:=h;rw [hx] at h;cases h
theorem zRy {s:List Nat} (hs:s.length<=65536) {l:List AV} {dp n left:Int} {d N:Nat} {i c:Nat} {k:Int} (f:isAt wrdB s i=true) (hc:wrdB c=false):zF d (N+1) [c] k left s (Int.ofNat i) dp n 0 0 l=some (outA (.int .i64 left) s (Int.ofNat i) dp n ⟨0,0⟩ l):=by
 have g:=zHu f;have e:=zID (zIH f);refine zi ?_
 rw [zAG];refine Wp.if (λ _=>adU (zCr hs ⟨0,0⟩ dp n l i (by omega)) ?_) λ h=>by cases h
 rw [e];refine zB2 hs ⟨0,0⟩ [c] i (by omega) n (λ h=>?_) λ _=>Wp.if (λ _=>Wp.mk (by rw [e])) λ h=>by cases h
 rw [e,zNh f hc] at h;cases h
theorem zVJ {s:List Nat} (hs:s.length<=65536) {g:Nat} (R:ANot s g) (D:∀{x:FA},x.ok=false->∀{l:List AV} {dp n:Int} {d i:Nat},1<=d->i<=s.length->Wp (zAg d s (Int.ofNat i) dp n x.e x.f l) (zC4 s x)) {d:Nat} (M:5*g+1<=d) (l:List AV) (n0:Nat):∀(N p i n:Nat) (t:RT),n<=64->65<=n+p->p<N->l.length+t.size<=n->t.size+n0<=n->i<=s.length →
  Wp (zF d N [38] 8 (Int.ofNat (l.length+t.size-1)) s (Int.ofNat i) (Int.ofNat (32-g)) (Int.ofNat n) 0 0 (l++t.fl l.length)) (OutA s l (Int.ofNat (32-g)) n0 (zGe (oneM s g) s 38 8 p i n t)):=by
 intro N
 induction N with
 | zero=>intro p i n t _ _ h;omega
 | succ N X=>
  intro p i n t hn hm hN hl Y K;obtain ⟨p,rfl⟩:∃k,p=k+1:=⟨p-1,by omega⟩
  obtain ⟨N,rfl⟩:∃k,N=k+1:=⟨N-1,by omega⟩
  have Q:=zAD K;rw [zAG,zGe];refine Wp.if (λ _=>adU (zCr hs ⟨0,0⟩ _ (Int.ofNat n) _ i K) (zB2 hs ⟨0,0⟩ [38] (sk s i) Q _ (λ h j=>Wp.if (λ h=>by cases h) λ _=>?_) λ h=>Wp.if (λ _=>?_) λ h=>by cases h)) λ h=>by cases h
  ·rw [zBA] at h j ⊢;have h:=pfx1.1 h;have j:sk s i+1<=s.length:=j;rw [if_pos h];refine adU (zKs ⟨0,0⟩ _ (Int.ofNat n) _ _ _) ?_
   rw [zf (by omega)]
   by_cases H:64<n+1
   ·rw [if_pos (show (64:Int)<Int.ofNat (n+1) by rw [qr];omega),if_pos H,FA.qt rfl]
    obtain ⟨v,q,y,F,A,w,E,z,rfl⟩:=D (x:=⟨3,Int.ofNat (sk s i)⟩) (fa3 _) (l:=l++t.fl l.length) (dp:=Int.ofNat (32-g)) (n:=Int.ofNat (n+1)) (d:=d) (by omega) j
    refine adI q (adI (zDU ⟨3,Int.ofNat (sk s i)⟩ A w E _ _ _ _ _ _ _ (fa3 _)) ((zN4 (x:=⟨3,Int.ofNat (sk s i)⟩) (fa3 _) z).mono λ v q=>.inl ⟨fa3 _,q⟩))
   ·rw [if_neg (show ¬(64:Int)<Int.ofNat (n+1) by rw [qr];omega),if_neg H]
    have O:(l++t.fl l.length).length=l.length+t.size:=by rw [QC,RT.fl_length]
    obtain ⟨v,q,U⟩:=R d (l++t.fl l.length) (sk s i+1) (n+1) M ⟨j,by omega,by omega⟩
    rcases U.cases with ⟨F,w,u,C,rfl⟩ | ⟨e,f,C,B,y,F,A,w,E,z,rfl⟩ | ⟨y,F,w,E,C,J,I,V,rfl⟩
    ·rw [C];obtain ⟨g1,g2,g3,g4,g5⟩:=zHw s g _ _ _ _ _ j (by omega) C
     have T:(RT.two 8 t u).size=t.size+u.size+1:=rfl;have W:(l++t.fl l.length++u.fl (l++t.fl l.length).length).length=l.length+(RT.two 8 t u).size-1:=by
      rw [QC,RT.fl_length,QC,RT.fl_length];omega
     refine adI q (adI (zEr ⟨0,0⟩ _ _ _ _ _ _ _ _ _ _ rfl (by omega)) ?_)
     have S:=zNZ l 8 t u;rw [W];have:=X p F w (.two 8 t u) g4 (by omega) (by omega) (by omega) (by omega) g2
     rw [←S] at this;exact this
    ·rw [C];refine adI q (adI (zDU ⟨e,f⟩ A w E _ _ _ _ _ _ _ B) ((zN4 (x:=⟨e,f⟩) B z).mono λ v q=>.inl ⟨B,q⟩))
    ·rw [C];refine adI q (adI (zEr ⟨0,0⟩ _ _ _ _ _ _ _ _ _ _ rfl (by omega)) ⟨_,zRy hs J (by decide),.inr ⟨rfl,_,F,w,_,rfl,J,I,?_,rfl⟩⟩)
     rw [QC];show E.length+1+n0<=_
     omega
  ·rw [zBA] at h ⊢;rw [if_neg (npf1 hs h)];exact Wp.mk rfl
theorem pn_P {s:List Nat} (hs:s.length<=65536) {g:Nat} (D:ANot s g) (j:∀{x:FA},x.ok=false->∀{l:List AV} {dp n:Int} {d i:Nat},1<=d->i<=s.length->Wp (zAg d s (Int.ofNat i) dp n x.e x.f l) (zC4 s x)):APN s g:=by
 intro d l i n O E;obtain ⟨d,rfl⟩:∃k,d=k+1:=⟨d-1,by omega⟩
 rw [zCo];obtain ⟨v,q,K⟩:=D d l i n (by omega) E
 obtain ⟨J,H,Q⟩:=E;show Wp _ (OutA s l _ n (zDT (oneM s g) s 38 8 i n))
 unfold zDT;rw [show FUEL=1180591620717411303423+1 from zDM]
 rcases K.cases with ⟨z,w,u,h,rfl⟩ | ⟨e,f,h,p,y,z,I,w,M,A,rfl⟩ | ⟨y,z,w,M,h,F,B,C,rfl⟩
 ·rw [h];obtain ⟨g1,g2,g3,g4,g5⟩:=zHw s g _ _ _ _ _ J H h;exact adI q (zVJ hs D j (by omega) l n _ 65 z w u g4 (by omega) (by omega) (by omega) (by omega) g2)
 ·rw [h];exact adI q ((zN4 (x:=⟨e,f⟩) p A).mono λ v q=>.inl ⟨p,q⟩)
 ·rw [h];exact adI q ⟨_,zRy hs F (by decide),.inr ⟨rfl,_,z,w,_,rfl,F,B,C,rfl⟩⟩
theorem zSe {s:List Nat} (hs:s.length<=65536) (g:∀{x:FA},x.ok=false->∀{l:List AV} {dp n:Int} {d i:Nat},1<=d->i<=s.length->Wp (zAg d s (Int.ofNat i) dp n x.e x.f l) (zC4 s x)) {x:FA} (hx:x.ok=false) {t:List Nat} {k:Int} {l:List AV} {dp n:Int} {d i:Nat} (w:1+1<=d) (p:i<=s.length):Wp (zAt d t k s (Int.ofNat i) dp n x.e x.f l) (zC4 s x):=by
 obtain ⟨d,rfl⟩:∃k,d=k+1:=⟨d-1,by omega⟩
 rw [zCo];obtain ⟨v,q,y,B,j,z,A,h,rfl⟩:=g hx (l:=l) (dp:=dp) (n:=n) (d:=d) (by omega) p
 rw [show FUEL=1180591620717411303423+1 from zDM]
 exact adI q (zN4 hx h)
theorem zRz {s:List Nat} {g:Nat} (h:APN s g):AAnd s g:=by
 intro d l i n I C;obtain ⟨d,rfl⟩:∃k,d=k+1:=⟨d-1,by omega⟩
 rw [zG2];obtain ⟨v,p,j⟩:=h d l i n (by omega) C
 rcases j.cases with ⟨z,q,u,w,rfl⟩ | ⟨e,f,w,F,y,z,B,q,H,A,rfl⟩ | ⟨y,z,q,H,w,J,D,E,rfl⟩
 ·exact adI p (Wp.mk j)
 ·exact adI p (Wp.mk j)
 ·exact adI p (Wp.mk j)
theorem zKY {s:List Nat} (hs:s.length<=65536):∀{x:FA},x.ok=false->∀{l:List AV} {dp n:Int} {d i:Nat},1<=d->i<=s.length->Wp (zAg d s (Int.ofNat i) dp n x.e x.f l) (zC4 s x):=by
 intro x h l dp n d i j g;obtain ⟨d,rfl⟩:∃k,d=k+1:=⟨d-1,by omega⟩
 exact zVI hs h g
theorem zQs {s:List Nat} (hs:s.length<=65536):∀{x:FA},x.ok=false->∀{l:List AV} {dp n:Int} {d i:Nat},3<=d->i<=s.length->Wp (zBx d s (Int.ofNat i) dp n x.e x.f l) (zC4 s x):=by
 intro x p l dp n d i w j;obtain ⟨d,rfl⟩:∃k,d=k+1:=⟨d-1,by omega⟩
 rw [zG2];obtain ⟨v,q,y,B,h,z,A,g,rfl⟩:=zSe hs (zKY hs) p (t:=[38]) (k:=Int.ofNat 8) (l:=l) (dp:=dp) (n:=n) (d:=d) (by omega) j
 exact adI q (Wp.mk ⟨_,_,_,_,_,g,rfl⟩)
theorem zQt {s:List Nat} {x:FA} (hx:x.ok=false) {l:List AV} {dp n left:Int} {d N:Nat} {i:Nat} (g:i<=s.length) {t:List Nat} {k:Int}:Wp (zE d (N+1) t k left s (Int.ofNat i) dp n x.e x.f l) (zC4 s x):=by
 rw [zAF];refine Wp.if (λ h=>?_) λ _=>Wp.mk ⟨_,_,_,_,_,g,rfl⟩
 exfalso
 have h:x.ok=true:=h;rw [hx] at h;cases h
theorem zRA {s:List Nat} (hs:s.length<=65536) {l:List AV} {dp n left:Int} {d N:Nat} {i c:Nat} {k:Int} (f:isAt wrdB s i=true) (hc:wrdB c=false):zE d (N+1) [c] k left s (Int.ofNat i) dp n 0 0 l=some (outA (.int .i64 left) s (Int.ofNat i) dp n ⟨0,0⟩ l):=by
 have g:=zHu f;have e:=zID (zIH f);refine zi ?_
 rw [zAF];refine Wp.if (λ _=>adU (zCr hs ⟨0,0⟩ dp n l i (by omega)) ?_) λ h=>by cases h
 rw [e];refine zB2 hs ⟨0,0⟩ [c] i (by omega) n (λ h=>?_) λ _=>Wp.if (λ _=>Wp.mk (by rw [e])) λ h=>by cases h
 rw [e,zNh f hc] at h;cases h
theorem zVK {s:List Nat} (hs:s.length<=65536) {g:Nat} (R:AAnd s g) (D:∀{x:FA},x.ok=false->∀{l:List AV} {dp n:Int} {d i:Nat},3<=d->i<=s.length->Wp (zBx d s (Int.ofNat i) dp n x.e x.f l) (zC4 s x)) {d:Nat} (M:5*g+3<=d) (l:List AV) (n0:Nat):∀(N p i n:Nat) (t:RT),n<=64->65<=n+p->p<N->l.length+t.size<=n->t.size+n0<=n->i<=s.length →
  Wp (zE d N [124] 9 (Int.ofNat (l.length+t.size-1)) s (Int.ofNat i) (Int.ofNat (32-g)) (Int.ofNat n) 0 0 (l++t.fl l.length)) (OutA s l (Int.ofNat (32-g)) n0 (zGe (andM s g) s 124 9 p i n t)):=by
 intro N
 induction N with
 | zero=>intro p i n t _ _ h;omega
 | succ N X=>
  intro p i n t hn hm hN hl Y K;obtain ⟨p,rfl⟩:∃k,p=k+1:=⟨p-1,by omega⟩
  obtain ⟨N,rfl⟩:∃k,N=k+1:=⟨N-1,by omega⟩
  have Q:=zAD K;rw [zAF,zGe];refine Wp.if (λ _=>adU (zCr hs ⟨0,0⟩ _ (Int.ofNat n) _ i K) (zB2 hs ⟨0,0⟩ [124] (sk s i) Q _ (λ h j=>Wp.if (λ h=>by cases h) λ _=>?_) λ h=>Wp.if (λ _=>?_) λ h=>by cases h)) λ h=>by cases h
  ·rw [zBA] at h j ⊢;have h:=pfx1.1 h;have j:sk s i+1<=s.length:=j;rw [if_pos h];refine adU (zKs ⟨0,0⟩ _ (Int.ofNat n) _ _ _) ?_
   rw [zf (by omega)]
   by_cases H:64<n+1
   ·rw [if_pos (show (64:Int)<Int.ofNat (n+1) by rw [qr];omega),if_pos H,FA.qt rfl]
    obtain ⟨v,q,y,F,A,w,E,z,rfl⟩:=D (x:=⟨3,Int.ofNat (sk s i)⟩) (fa3 _) (l:=l++t.fl l.length) (dp:=Int.ofNat (32-g)) (n:=Int.ofNat (n+1)) (d:=d) (by omega) j
    refine adI q (adI (zDU ⟨3,Int.ofNat (sk s i)⟩ A w E _ _ _ _ _ _ _ (fa3 _)) ((zQt (x:=⟨3,Int.ofNat (sk s i)⟩) (fa3 _) z).mono λ v q=>.inl ⟨fa3 _,q⟩))
   ·rw [if_neg (show ¬(64:Int)<Int.ofNat (n+1) by rw [qr];omega),if_neg H]
    have O:(l++t.fl l.length).length=l.length+t.size:=by rw [QC,RT.fl_length]
    obtain ⟨v,q,U⟩:=R d (l++t.fl l.length) (sk s i+1) (n+1) M ⟨j,by omega,by omega⟩
    rcases U.cases with ⟨F,w,u,C,rfl⟩ | ⟨e,f,C,B,y,F,A,w,E,z,rfl⟩ | ⟨y,F,w,E,C,J,I,V,rfl⟩
    ·rw [C];obtain ⟨g1,g2,g3,g4,g5⟩:=zKq s g _ _ _ _ _ j (by omega) C
     have T:(RT.two 9 t u).size=t.size+u.size+1:=rfl;have W:(l++t.fl l.length++u.fl (l++t.fl l.length).length).length=l.length+(RT.two 9 t u).size-1:=by
      rw [QC,RT.fl_length,QC,RT.fl_length];omega
     refine adI q (adI (zEr ⟨0,0⟩ _ _ _ _ _ _ _ _ _ _ rfl (by omega)) ?_)
     have S:=zNZ l 9 t u;rw [W];have:=X p F w (.two 9 t u) g4 (by omega) (by omega) (by omega) (by omega) g2
     rw [←S] at this;exact this
    ·rw [C];refine adI q (adI (zDU ⟨e,f⟩ A w E _ _ _ _ _ _ _ B) ((zQt (x:=⟨e,f⟩) B z).mono λ v q=>.inl ⟨B,q⟩))
    ·rw [C];refine adI q (adI (zEr ⟨0,0⟩ _ _ _ _ _ _ _ _ _ _ rfl (by omega)) ⟨_,zRA hs J (by decide),.inr ⟨rfl,_,F,w,_,rfl,J,I,?_,rfl⟩⟩)
     rw [QC];show E.length+1+n0<=_
     omega
  ·rw [zBA] at h ⊢;rw [if_neg (npf1 hs h)];exact Wp.mk rfl
theorem pa_P {s:List Nat} (hs:s.length<=65536) {g:Nat} (D:AAnd s g) (j:∀{x:FA},x.ok=false->∀{l:List AV} {dp n:Int} {d i:Nat},3<=d->i<=s.length->Wp (zBx d s (Int.ofNat i) dp n x.e x.f l) (zC4 s x)):APA s g:=by
 intro d l i n O E;obtain ⟨d,rfl⟩:∃k,d=k+1:=⟨d-1,by omega⟩
 rw [zEY];obtain ⟨v,q,K⟩:=D d l i n (by omega) E
 obtain ⟨J,H,Q⟩:=E;show Wp _ (OutA s l _ n (zDT (andM s g) s 124 9 i n))
 unfold zDT;rw [show FUEL=1180591620717411303423+1 from zDM]
 rcases K.cases with ⟨z,w,u,h,rfl⟩ | ⟨e,f,h,p,y,z,I,w,M,A,rfl⟩ | ⟨y,z,w,M,h,F,B,C,rfl⟩
 ·rw [h];obtain ⟨g1,g2,g3,g4,g5⟩:=zKq s g _ _ _ _ _ J H h;exact adI q (zVK hs D j (by omega) l n _ 65 z w u g4 (by omega) (by omega) (by omega) (by omega) g2)
 ·rw [h];exact adI q ((zQt (x:=⟨e,f⟩) p A).mono λ v q=>.inl ⟨p,q⟩)
 ·rw [h];exact adI q ⟨_,zRA hs F (by decide),.inr ⟨rfl,_,z,w,_,rfl,F,B,C,rfl⟩⟩
theorem zTp {s:List Nat} {g:Nat} (h:APA s g):AOr s g:=by
 intro d l i n I C;obtain ⟨d,rfl⟩:∃k,d=k+1:=⟨d-1,by omega⟩
 rw [zLj];obtain ⟨v,p,j⟩:=h d l i n (by omega) C
 rcases j.cases with ⟨z,q,u,w,rfl⟩ | ⟨e,f,w,F,y,z,B,q,H,A,rfl⟩ | ⟨y,z,q,H,w,J,D,E,rfl⟩
 ·exact adI p (Wp.mk j)
 ·exact adI p (Wp.mk j)
 ·exact adI p (Wp.mk j)
theorem zQu {s:List Nat} (hs:s.length<=65536) (h8:∀c∈s,c<256) {l:List AV} {i n:Nat} {dp:Int} (z:PreA s l i n):Wp (dD true [D.v (K.i IntKind.i64),D.hc 0 false 7,D.v K.s,D.v (K.i IntKind.i64),D.v (K.i IntKind.i64),D.v (K.i IntKind.i64),D.v (K.c (AV.sym 0)),D.v (K.i IntKind.i64),D.v (K.i IntKind.i64),D.vec 0 6] (zDV s (Int.ofNat i) dp (Int.ofNat n) 0 0 l) λ w R A h q j p C=>some (AV.int IntKind.i64 w,[(0,HO.cells false [AV.str R,AV.int IntKind.i64 A,AV.int IntKind.i64 h,AV.int IntKind.i64 q,AV.sym 0,AV.int IntKind.i64 j,AV.int IntKind.i64 p])],[(0,VI.vec 6 C)])) (OutA s l dp n (zC8 s i n)):=by
 obtain ⟨v,B,g⟩:=zWy (l:=l) (dp:=dp) hs h8 i n z.1 z.2.1 z.2.2;rcases g.cases with ⟨H,E,u,F,rfl⟩ | ⟨e,f,F,Q,y,H,J,E,S,I,rfl⟩ | ⟨y,H,E,S,F,T,M,O,rfl⟩
 ·exact adI B (Wp.mk g)
 ·exact adI B (Wp.mk g)
 ·exact adI B (Wp.mk g)
theorem zKZ {s:List Nat} {l:List AV} {d:Nat} {y i dp n:Int} {x:FA} {b:Bool}:zDa d y b s i dp n x.e x.f l=some (outA (.int .i64 y) s i dp n (if b=true then x.fail 5 i else x) l):=by
 refine zi ?_
 rw [zJx];refine Wp.if (λ h=>adU (zEf x dp n l 5 i i) ?_) λ h=>?_
 ·rw [zFU,if_pos h];exact Wp.mk rfl
 ·rw [zFU,if_neg (by rw [h];decide)];exact Wp.mk rfl
theorem zW1 {s:List Nat} (hs:s.length<=65536) (h8:∀c∈s,c<256):∀g,g<=32->ANot s g:=by
 intro g
 induction g with
 | zero=>
  intro _ d l i n hd W;obtain ⟨d,rfl⟩:∃k,d=k+1:=⟨d-1,by omega⟩
  obtain ⟨O,K,T⟩:=W;have I:=zAD O;rw [zED,oneM];have F:s[sk s i]? = some 33\/s[sk s i]? = some 40->∀v,zC4 s ⟨3,Int.ofNat (sk s i)⟩ v->OutA s l (Int.ofNat (32-0)) n (if s[sk s i]? = some 33\/s[sk s i]? = some 40 then .error (3,Int.ofNat (sk s i)) else zC8 s (sk s i) n) v:=λ h v E=>by
   rw [if_pos h];exact .inl ⟨fa3 _,E⟩
  refine adU (zCr hs ⟨0,0⟩ _ (Int.ofNat n) l i O) (Wp.if (λ h=>by cases h) λ _=>zB2 hs ⟨0,0⟩ [33] (sk s i) I _ (λ h j=>Wp.if (λ _=>adB (zO6 ⟨0,0⟩ _ _ l _ _ rfl) (Wp.if (λ _=>Wp.mk ?_) λ h=>by cases h)) λ h=>by cases h) λ C=>Wp.if (λ h=>by cases h) λ _=>?_)
  ·rw [zBA] at h j;refine F (.inl (pfx1.1 h)) _ ?_
   rw [FA.qt rfl];exact ⟨_,sk s (sk s i)+[33].length,_,_,_,by rw [zBA];exact j,rfl⟩
  rw [zBA] at C ⊢;refine zB2 hs ⟨0,0⟩ [40] (sk s i) I _ (λ h j=>Wp.if (λ _=>adB (zO6 ⟨0,0⟩ _ _ l _ _ rfl) (Wp.if (λ _=>Wp.mk ?_) λ h=>by cases h)) λ h=>by cases h) λ z=>Wp.if (λ h=>by cases h) λ _=>?_
  ·rw [zBA] at h j;refine F (.inr (pfx1.1 h)) _ ?_
   rw [FA.qt rfl];exact ⟨_,sk s (sk s i)+[40].length,_,_,_,by rw [zBA];exact j,rfl⟩
  rw [zBA] at z ⊢;rw [if_neg (by rintro (h | h);exact npf1 hs C h;exact npf1 hs z h)]
  exact zQu hs h8 ⟨I,K,T⟩
 | succ g U=>
  intro hg d l i n hd W;have U:=U (by omega)
  have aa:AOr s g:=zTp (pa_P hs (zRz (pn_P hs U (zKY hs))) (zQs hs));obtain ⟨d,rfl⟩:∃k,d=k+1:=⟨d-1,by omega⟩
  obtain ⟨O,K,T⟩:=W;have I:=zAD O;have deep:Int.ofNat (32-(g+1))+1=Int.ofNat (32-g):=by rw [qr,qr];omega
  have B:wrapx .i64 (Int.ofNat (32-g)-1)=Int.ofNat (32-(g+1)):=by rw [zT (by rw [qr];omega) (by rw [qr];omega),qr,qr];omega
  have d1:Int.ofNat (32-(g+1))+1<=32:=by rw [qr];omega
  have d0:0<=Int.ofNat (32-(g+1)):=Qa _;rw [zED,oneM];refine adU (zCr hs ⟨0,0⟩ _ (Int.ofNat n) l i O) (Wp.if (λ h=>by cases h) λ _=>zB2 hs ⟨0,0⟩ [33] (sk s i) I _ (λ h j=>Wp.if (λ _=>?_) λ h=>by cases h) λ C=>Wp.if (λ h=>by cases h) λ _=>?_)
  ·rw [zBA] at h j ⊢;have h:=pfx1.1 h;have j:sk s i+1<=s.length:=j;rw [if_pos h];refine adB (zRv ⟨0,0⟩ _ _ l _ _ d1 d0) (Wp.if (λ h=>by cases h) λ _=>adU (zKs ⟨0,0⟩ _ (Int.ofNat n) _ _ _) ?_)
   rw [zf (by omega),deep]
   by_cases S:64<n+1
   ·rw [if_pos (show (64:Int)<Int.ofNat (n+1) by rw [qr];omega),if_pos S,FA.qt rfl]
    obtain ⟨v,E,y,p,M,w,J,A,rfl⟩:=zKY hs (x:=⟨3,Int.ofNat (sk s i)⟩) (fa3 _) (l:=l) (dp:=Int.ofNat (32-g)) (n:=Int.ofNat (n+1)) (d:=d) (by omega) j
    exact adI E (adI (zDU ⟨3,Int.ofNat (sk s i)⟩ _ w J _ _ _ _ _ _ _ (fa3 _)) (Wp.mk (.inl ⟨fa3 _,_,_,_,_,_,A,rfl⟩)))
   ·rw [if_neg (show ¬(64:Int)<Int.ofNat (n+1) by rw [qr];omega),if_neg S]
    obtain ⟨v,E,X⟩:=U d l (sk s i+1) (n+1) (by omega) ⟨j,by omega,by omega⟩
    rcases X.cases with ⟨p,w,u,q,rfl⟩ | ⟨e,f,q,D,y,p,M,w,J,A,rfl⟩ | ⟨y,p,w,J,q,Q,R,Y,rfl⟩
    ·rw [q];obtain ⟨g1,g2,g3,g4,g5⟩:=zHw s g _ _ _ _ _ j (by omega) q
     refine adI E ?_
     rw [B];refine adI (zEr ⟨0,0⟩ _ _ _ _ _ _ _ _ _ _ rfl (by rw [QC,RT.fl_length];omega)) (Wp.mk ?_)
     have e1:l++u.fl l.length++[nd6 (Int.ofNat 7) [] [] (Int.ofNat 0) (Int.ofNat (l.length+u.size-1)) (Int.negSucc 0)]=l++(RT.not u).fl l.length:=by rw [RT.fl,Qi];rfl
     have e2:(l++u.fl l.length).length=l.length+(RT.not u).size-1:=by
      rw [QC,RT.fl_length];show _=l.length+(u.size+1)-1
      omega
     show outA (.int .i64 (Int.ofNat (l++u.fl l.length).length)) s (Int.ofNat p) _ (Int.ofNat w) ⟨0,0⟩ (l++u.fl l.length++[nd6 (Int.ofNat 7) [] [] (Int.ofNat 0) (Int.ofNat (l.length+u.size-1)) (Int.negSucc 0)])=_
     rw [e1,e2]
    ·rw [q];refine adI E ?_
     exact adI (zDU ⟨e,f⟩ _ w J _ _ _ _ _ _ _ D) (Wp.mk (.inl ⟨D,_,_,_,_,_,A,rfl⟩))
    ·rw [q];refine adI E ?_
     rw [B];refine adI (zEr ⟨0,0⟩ _ _ _ _ _ _ _ _ _ _ rfl (by omega)) (Wp.mk (.inr ⟨rfl,_,p,w,_,rfl,Q,R,?_,rfl⟩))
     rw [QC];show J.length+1+n<=_
     omega
  rw [zBA] at C ⊢;rw [if_neg (npf1 hs C)];refine zB2 hs ⟨0,0⟩ [40] (sk s i) I _ (λ h j=>Wp.if (λ _=>?_) λ h=>by cases h) λ z=>Wp.if (λ h=>by cases h) λ _=>?_
  ·rw [zBA] at h j ⊢;have h:=pfx1.1 h;have j:sk s i+1<=s.length:=j;rw [if_pos h];refine adB (zRv ⟨0,0⟩ _ _ l _ _ d1 d0) (Wp.if (λ h=>by cases h) λ _=>?_)
   rw [deep];obtain ⟨v,E,X⟩:=aa d l (sk s i+1) n (by omega) ⟨j,K,T⟩
   show Wp _ (OutA s l _ n (zKo s (orM s g (sk s i+1) n)))
   rcases X.cases with ⟨p,w,u,q,rfl⟩ | ⟨e,f,q,D,y,p,M,w,J,A,rfl⟩ | ⟨y,p,w,J,q,Q,R,Y,rfl⟩
   ·rw [q];obtain ⟨g1,g2,g3,g4,g5⟩:=zL2 s g _ _ _ _ _ j K q;have V:=zAD g2;show Wp _ (OutA s l _ n (if s[sk s p]? = some 41 then .ok (sk s p+1,w,u) else .error (5,Int.ofNat (sk s p))))
    refine adI E (Wp.if (λ _=>?_) λ h=>by cases h)
    rw [B];refine zB2 hs ⟨0,0⟩ [41] p g2 _ (λ h j=>?_) λ h=>?_
    ·rw [if_pos (pfx1.1 h)];refine ⟨_,zKZ (x:=⟨0,0⟩),?_⟩
     rfl
    ·rw [if_neg (npf1 hs h)];refine ⟨_,zKZ (x:=⟨0,0⟩),.inl ⟨fa5 _,?_⟩⟩
     rw [if_pos (show (!false)=true from rfl),FA.qt rfl]
     exact ⟨_,_,_,_,_,V,rfl⟩
   ·rw [q];refine adI E (Wp.if (λ h=>?_) λ _=>⟨_,zKZ (x:=⟨e,f⟩),.inl ⟨D,_,_,_,_,_,A,rfl⟩⟩)
    exfalso
    have h:(FA.mk e f).ok=true:=h;rw [D] at h;cases h
   ·rw [q];have ab:=zHu Q;have H:=zID (zIH Q);refine adI E (Wp.if (λ _=>?_) λ h=>by cases h)
    refine zB2 hs ⟨0,0⟩ [41] p (by omega) _ (λ h=>?_) λ _=>⟨_,zKZ (x:=⟨0,0⟩),.inl ⟨fa5 _,?_⟩⟩
    ·rw [H,zNh Q (by decide)] at h;cases h
    ·rw [H];rw [if_pos (show (!false)=true from rfl),FA.qt rfl]
     exact ⟨_,p,_,_,_,by omega,rfl⟩
  ·rw [zBA] at z ⊢;rw [if_neg (npf1 hs z)];exact zQu hs h8 ⟨I,K,T⟩
theorem or_A {s:List Nat} (hs:s.length<=65536) (h8:∀c∈s,c<256):AOr s 32:=zTp (pa_P hs (zRz (pn_P hs (zW1 hs h8 32 (QB _)) (zKY hs))) (zQs hs))
end Go.Proofs.YtdeeimaahdgeaaaGreatDoor.spec
namespace Go.Proofs.YtdeeimaahdgeaaaGreatDoor.spec
open Go Go.Sy
variable [MX]
def RT.rk:RT->Int
 | .leaf k _ _ _=>k
 | .not _=>7
 | .two k _ _=>k
theorem zUn (k:Int):zFj k=some (.int .i64 (if k=9 then 1 else if k=8 then 2 else if k=7 then 3 else 4)):=by
 refine zi ?_
 rw [zJW];refine Wp.if (λ h=>Wp.mk ?_) λ h=>Wp.if (λ e=>Wp.mk ?_) λ e=>Wp.if (λ f=>Wp.mk ?_) λ f=>Wp.mk ?_
 ·rw [if_pos (by simpa using h)];rfl
 ·rw [if_neg (by simpa using h),if_pos (by simpa using e)];rfl
 ·rw [if_neg (by simpa using h),if_neg (by simpa using e),if_pos (by simpa using f)];rfl
 ·rw [if_neg (by simpa using h),if_neg (by simpa using e),if_neg (by simpa using f)];rfl
theorem RT.root {es:List AV} {t:RT} {o:Nat} (h:Seg es t o):∃a b n l r,es[o+t.size-1]? = some (nd6 t.rk a b n l r):=by
 cases t with
 | leaf k a b n=>exact ⟨_,_,_,_,_,h.leaf⟩
 | not t=>exact ⟨_,_,_,_,_,h.not.2⟩
 | two k t u=>
  refine ⟨[],[],Int.ofNat 0,Int.ofNat (o+t.size-1),Int.ofNat (o+t.size+u.size-1),?_⟩
  rw [show o+(RT.two k t u).size-1=o+t.size+u.size by show o+(t.size+u.size+1)-1=_;omega]
  exact h.two.2.2
theorem zUD {t:RT} (e:t.kd) {m:Int} (hm:m=0\/m=1\/m=2):((if t.rk=9 then (1:Int) else if t.rk=8 then 2 else if t.rk=7 then 3 else 4)<m+1)↔t.tg<m:=by
 cases t with
 | leaf k a b n=>
  have g:=e.1;have f:=e.2;show (if k=9 then (1:Int) else if k=8 then 2 else if k=7 then 3 else 4)<m+1↔(2:Int)<m
  rw [if_neg (by omega),if_neg (by omega),if_neg (by omega)]
  omega
 | not t=>
  show (3:Int)<m+1↔(2:Int)<m
  omega
 | two k t u=>
  show (if k=9 then (1:Int) else if k=8 then 2 else if k=7 then 3 else 4)<m+1↔(if k=9 then (0:Int) else if k=8 then 1 else 2)<m
  rcases e.1 with rfl | rfl
  ·rw [if_neg (by decide),if_pos rfl,if_neg (by decide),if_pos rfl];omega
  ·rw [if_pos rfl,if_pos rfl];omega
theorem zH0 {es:List AV} {t:RT} {o d:Nat} {m:Int} (hm:m=0\/m=1\/m=2) (hs:Seg es t o) (e:t.kd) (j:t.told.length<=9000000000000000000) (h:zB6 d es (Int.ofNat (o+t.size-1))=some (.str t.told)):zBJ (d+1) (Int.ofNat (o+t.size-1)) (m+1) es=some (.str (parT t.tg m t.told)):=by
 obtain ⟨a,b,n,l,r,g⟩:=RT.root hs;have m0:zc=9223372036854775807:=rfl;refine zi ?_
 rw [zJp];refine qk_s h (zBB g (qk_i (zUn _) (Wp.ite (λ h=>Wp.gd ?_ (Wp.gd ?_ (Wp.mk ?_))) λ h=>Wp.mk ?_)))
 ·simp only [QK,QS];omega
 ·simp only [QC,QK,QS];omega
 ·unfold parT;rw [if_pos ((zUD e hm).1 h)]
 ·unfold parT;rw [if_neg (λ f=>h ((zUD e hm).2 f))]
theorem zH1 {es:List AV} {M:Nat} (hM:M<=5000000):∀(t:RT) (o d:Nat),2*t.size<=d->t.size<=1000->Seg es t o->t.bd M->t.kd->zB6 d es (Int.ofNat (o+t.size-1))=some (.str t.told):=by
 have m0:zc=9223372036854775807:=rfl;intro t
 induction t with
 | leaf k a b n=>
  intro o d F I hs q f;have g:(RT.leaf k a b n).size=1:=rfl;obtain ⟨d,rfl⟩:∃e,d=e+1:=⟨d-1,by omega⟩
  refine zi ?_
  rw [zFK,g,show o+1-1=o by omega]
  refine zBB hs.leaf ?_
  have p:1<=k:=f.1;have V:k<=6:=f.2;obtain ⟨y,j,B⟩:=q;have v:=zUi n j B;have X:=zQp n j B;rw [show (RT.leaf k a b n).told=zHO k a b n from rfl]
  unfold zHO;refine Wp.if (λ h=>Wp.mk ?_) λ R=>Wp.if (λ h=>Wp.gd ?_ (Wp.gd ?_ (Wp.mk ?_))) λ O=>Wp.if (λ h=>Wp.gd ?_ (Wp.gd ?_ (Wp.mk ?_))) λ W=>Wp.if (λ h=>Wp.gd ?_ (qk_s v (Wp.gd ?_ (Wp.mk ?_)))) λ Q=>Wp.if (λ h=>Wp.gd ?_ (qk_s v (Wp.gd ?_ (Wp.mk ?_)))) λ S=>Wp.if (λ h=>?_) λ h7=>Wp.if (λ h=>?_) λ h8=>Wp.if (λ h=>?_) λ h9=>Wp.mk ?_
  all_goals simp only [beq_iff_eq,beq_eq_false_iff_ne,ne_eq] at *
  all_goals first
   | (simp only [QC,QK,QS];omega)
   | (subst h;simp;done)
   | (exfalso;omega)
   | (rw [if_neg R,if_neg O,if_neg W,if_neg Q,if_neg S])
 | not t ih=>
  intro o d F I hs q f;have g:(RT.not t).size=t.size+1:=rfl;have:=t.size_pos;obtain ⟨d,rfl⟩:∃e,d=e+1+1:=⟨d-2,by omega⟩
  refine zi ?_
  rw [zFK,g,show o+(t.size+1)-1=o+t.size by omega]
  obtain ⟨z,A⟩:=hs.not;refine zBB A ?_
  have q:t.bd M:=q;have hl:=zEy q;have C:=zBV t.tg 2 t.told;have J:t.size*(M+40)<=1000*5000040:=Nat.mul_le_mul (by omega) (by omega)
  have f:t.kd:=f;refine Wp.if (λ h=>by cases h) λ _=>Wp.if (λ h=>by cases h) λ _=>Wp.if (λ h=>by cases h) λ _=>Wp.if (λ h=>by cases h) λ _=>Wp.if (λ h=>by cases h) λ _=>Wp.if (λ _=>?_) λ h=>by cases h
  refine qk_s (zH0 (m:=2) (.inr (.inr rfl)) z f (by omega) (ih o d (by omega) (by omega) z q f)) (Wp.gd ?_ (Wp.mk rfl))
  simp only [QK,QS];omega
 | two k t u E D=>
  intro o d F I hs q f;have g:(RT.two k t u).size=t.size+u.size+1:=rfl;have:=t.size_pos;have:=u.size_pos;obtain ⟨d,rfl⟩:∃e,d=e+1+1:=⟨d-2,by omega⟩
  refine zi ?_
  rw [zFK,g,show o+(t.size+u.size+1)-1=o+t.size+u.size by omega]
  obtain ⟨z,A,Y⟩:=hs.two;refine zBB Y ?_
  obtain ⟨y,j⟩:=q;obtain ⟨f,p,w⟩:=f;have aa:=zEy y;have C:=zEy j;have T:t.size*(M+40)<=1000*5000040:=Nat.mul_le_mul (by omega) (by omega)
  have U:u.size*(M+40)<=1000*5000040:=Nat.mul_le_mul (by omega) (by omega)
  have p1:=zBV t.tg 1 t.told;have p2:=zBV u.tg 2 u.told;have p3:=zBV t.tg 0 t.told;have p4:=zBV u.tg 1 u.told;have K:=E o d (by omega) (by omega) z y p
  have H:=D (o+t.size) d (by omega) (by omega) A j w
  rcases f with rfl | rfl
  ·refine Wp.if (λ h=>by cases h) λ _=>Wp.if (λ h=>by cases h) λ _=>Wp.if (λ h=>by cases h) λ _=>Wp.if (λ h=>by cases h) λ _=>Wp.if (λ h=>by cases h) λ _=>Wp.if (λ h=>by cases h) λ _=>Wp.if (λ _=>?_) λ h=>by cases h
   refine qk_s (zH0 (m:=1) (.inr (.inl rfl)) z p (by omega) K) (Wp.gd ?_ (qk_s (zH0 (m:=2) (.inr (.inr rfl)) A w (by omega) H) (Wp.gd ?_ (Wp.mk rfl))))
   all_goals simp only [QC,QK,QS]
   all_goals omega
  ·refine Wp.if (λ h=>by cases h) λ _=>Wp.if (λ h=>by cases h) λ _=>Wp.if (λ h=>by cases h) λ _=>Wp.if (λ h=>by cases h) λ _=>Wp.if (λ h=>by cases h) λ _=>Wp.if (λ h=>by cases h) λ _=>Wp.if (λ h=>by cases h) λ _=>Wp.if (λ _=>?_) λ h=>by cases h
   refine qk_s (zH0 (m:=0) (.inl rfl) z p (by omega) K) (Wp.gd ?_ (qk_s (zH0 (m:=1) (.inr (.inl rfl)) A w (by omega) H) (Wp.gd ?_ (Wp.mk rfl))))
   all_goals simp only [QC,QK,QS]
   all_goals omega
theorem zOp {s:List Nat} {x:FA} {i dp n p q:Int} {l:List AV}:zDW s i dp n x.e x.f p q l=some (if x.ok=true then .qf [.agg [.qp 6 l],.agg [.int .i64 (Int.ofNat 0),.int .i64 (Int.ofNat 0)]] else .qf [.agg [.qa],.agg [.int .i64 x.e,.int .i64 x.f]]):=by
 have g:∀b:Bool,(match b with | true=>false | false=>true:Bool)=!b:=λ b=>by cases b <;> rfl
 refine zi ?_
 rw [zL8];refine Wp.if (λ h=>Wp.mk ?_) λ h=>Wp.mk ?_
 ·have h:(!x.ok)=true:=by
   rw [←g]
   revert h
   unfold FA.ok;cases (x.e==0&&x.f==0) <;> intro h <;> first | rfl | exact h
  rw [if_neg (λ j=>by rw [j] at h;cases h)]
 ·have h:(!x.ok)=false:=by
   rw [←g]
   revert h
   unfold FA.ok;cases (x.e==0&&x.f==0) <;> intro h <;> first | rfl | exact h
  rw [if_pos (by simpa using h)]
theorem zK0 {s:List Nat} {x:FA} {i dp n p q:Int} {l:List AV} (hx:x.ok=false):zE7 s i dp n x.e x.f p q l=some (.qf [.agg [.qa],.agg [.int .i64 x.e,.int .i64 x.f]]):=by
 refine zi ?_
 rw [zH2];refine Wp.if (λ h=>?_) λ _=>?_
 ·have h:x.ok=true:=h;rw [hx] at h;cases h
 ·rw [zOp,if_neg (by rw [hx];decide)]
  exact Wp.mk rfl
theorem zLf (s:List Nat) (h8:∀c∈s,c<256):zJf s=some (parR (zDq s)):=by
 refine zi ?_
 rw [zN9];unfold zDq;refine Wp.ite (λ h=>Wp.mk ?_) λ h=>?_
 ·rw [if_pos (by rw [qr] at h;omega)];rfl
 have hs:s.length<=1024:=by rw [qr] at h;omega
 have p:s.length<=65536:=by omega
 rw [if_neg (by omega)]
 obtain ⟨v,D,O⟩:=or_A p h8 FUEL [] 0 0 (Qh (zx (by omega))) ⟨QR _,by omega,QB _⟩
 rcases O.cases with ⟨i,n,t,w,rfl⟩ | ⟨e,f,w,q,y,i,J,H,R,F,rfl⟩ | ⟨y,i,H,R,w,E,K,Q,rfl⟩
 ·rw [w];obtain ⟨g1,g2,g3,g4,g5⟩:=zL2 s 32 _ _ _ _ _ (QR _) (by omega) w
  have I:=zAD g2;have A:=t.size_pos;refine adI D (adU (zCr p ⟨0,0⟩ _ _ _ i g2) (Wp.lt (λ j=>?_) λ z=>?_))
  ·refine adU (zEf ⟨0,0⟩ _ _ _ 5 _ _) ?_
   rw [FA.qt rfl,zK0 (x:=⟨5,Int.ofNat (sk s i)⟩) (fa5 _)];show Wp _ λ v=>v=parR (if sk s i<s.length then .error (5,Int.ofNat (sk s i)) else if 1024<t.told.length then .error (3,Int.negSucc 0) else .ok t)
   rw [if_pos j];exact Wp.mk rfl
  ·show Wp _ λ v=>v=parR (if sk s i<s.length then .error (5,Int.ofNat (sk s i)) else if 1024<t.told.length then .error (3,Int.negSucc 0) else .ok t)
   rw [if_neg (by omega),zH2]
   refine Wp.if (λ _=>?_) λ h=>by cases h
   have B:([]++t.fl ([]:List AV).length:List AV).length=t.size:=by rw [List.nil_append,RT.fl_length]
   have g:=zH1 (es:=[]++t.fl ([]:List AV).length) (M:=56) (by decide) t 0 FUEL (Qh (zx (by omega))) (by omega) (Seg.whole t) g5.bd.1 g5.kd
   rw [QV] at g;rw [B,zA5 A (by omega)]
   refine qk_s g (Wp.ite (λ h=>adU (zEf ⟨0,0⟩ _ _ _ 3 _ _) ?_) λ h=>?_)
   ·rw [if_pos (by rw [qr] at h;omega),FA.qt rfl,zOp (x:=⟨3,Int.negSucc 0⟩),if_neg (by decide)]
    exact Wp.mk rfl
   ·rw [if_neg (by rw [qr] at h;omega),zOp (x:=⟨0,0⟩),if_pos (show (FA.mk 0 0).ok=true from rfl)]
    exact Wp.mk rfl
 ·rw [w];have I:=zAD F;refine adI D (adU (zCr p ⟨e,f⟩ _ _ _ i F) (Wp.lt (λ j=>adU (zEf ⟨e,f⟩ _ _ _ 5 _ _) ?_) λ z=>?_))
  ·rw [FA.qH q,zK0 q];exact Wp.mk rfl
  ·rw [zK0 (x:=⟨e,f⟩) q];exact Wp.mk rfl
 ·rw [w];have j:=zHu E;have C:=zID (zIH E);refine adI D (adU (zCr p ⟨0,0⟩ _ _ _ i (by omega)) ?_)
  rw [C];refine Wp.lt (λ _=>adU (zEf ⟨0,0⟩ _ _ _ 5 _ _) ?_) λ z=>absurd j (by omega)
  rw [FA.qt rfl,zK0 (x:=⟨5,Int.ofNat i⟩) (fa5 _)];exact Wp.mk rfl
noncomputable instance:DecidableEq AV:=λ _ _=>Classical.propDecidable _
def vo (es:List AV):Prop:=∀e∈es,∃k a b n l r,e=nd6 k a b n l r
theorem zFi:∀(t:RT) (o:Nat),vo (t.fl o)
 | .leaf k a b n,o=>λ e f=>by rw [RT.fl,Qc] at f;exact ⟨_,_,_,_,_,_,f⟩
 | .not t,o=>λ e f=>by
  rw [RT.fl,QI,Qc] at f;rcases f with f | f
  ·exact zFi t o e f
  ·exact ⟨_,_,_,_,_,_,f⟩
 | .two k t u,o=>λ e f=>by
  rw [RT.fl,QI,QI,Qc] at f;rcases f with (f | f) | f
  ·exact zFi t o e f
  ·exact zFi u _ e f
  ·exact ⟨_,_,_,_,_,_,f⟩
theorem zUE (k j n n' l g r e:Int) (a f b h:List Nat):(k==j&&(seqb a f&&(seqb b h&&(n==n'&&(l==g&&r==e)))))=decide (nd6 k a b n l r=nd6 j f h n' g e):=by
 rw [zAP,zAP,Bool.eq_iff_iff];simp
theorem zHP {es e:List AV} {i:Nat} (g:i<es.length) (f:i<e.length):es.drop i=e.drop i↔es[i]=e[i]/\es.drop (i+1)=e.drop (i+1):=by
 rw [Qg g,Qg f];exact List.cons_eq_cons
theorem zK1 (es j:List AV) (h:vo es) (h':vo j) (J:es.length<=2000000):zK es j=some (.bool (decide (es=j))):=by
 have loop:es.length=j.length->∀(n i:Nat),i<=es.length->es.length-i<n->zAu n es j (Int.ofNat es.length) (Int.ofNat i)=some (.bool (decide (es.drop i=j.drop i))):=by
  intro H n
  induction n with
  | zero=>intro i _ h;omega
  | succ n I=>
   intro i K M;refine zi ?_
   rw [zE0];refine Wp.lt (λ g=>?_) λ v=>Wp.mk ?_
   ·have f:i<j.length:=H▸g
    obtain ⟨k,a,b,m,p,q,C⟩:=h _ (Qn g);obtain ⟨z,y,w,B,D,E,A⟩:=h' _ (Qn f);refine zB5 ((zA4 g).trans (congrArg some C)) (zB5 ((zA4 f).trans (congrArg some A)) ?_)
    rw [zUE];refine Wp.if (λ hc=>Wp.mk ?_) λ hc=>?_
    ·have hc:(!decide (nd6 k a b m p q=nd6 z y w B D E))=true:=hc;rw [QN];rw [zHP g f,C,A];intro F;rw [QL F.1] at hc;cases hc
    ·have hc:(!decide (nd6 k a b m p q=nd6 z y w B D E))=false:=hc;rw [zf (by omega),I (i+1) g (by omega)]
     refine Wp.mk (congrArg AV.bool (decide_eq_decide.2 ?_))
     rw [zHP g f,C,A];have:nd6 k a b m p q=nd6 z y w B D E:=by simpa using hc
     exact ⟨λ h=>⟨this,h⟩,λ h=>h.2⟩
   ·rw [Qo v,Qo (by omega)];simp
 refine zi ?_
 rw [zFL];refine Wp.if (λ hc=>Wp.mk ?_) λ hc=>?_
 ·have hc:(!(Int.ofNat es.length==Int.ofNat j.length))=true:=hc;have hc:es.length≠j.length:=λ e=>by rw [e] at hc;simp at hc
  rw [QN λ e=>hc (congrArg _ e)]
 ·have hc:(!(Int.ofNat es.length==Int.ofNat j.length))=false:=hc;have hc:es.length=j.length:=by
   have:(Int.ofNat es.length==Int.ofNat j.length)=true:=by simpa using hc
   exact beqN.1 this
  have:=loop hc FUEL 0 (QR _) (zx (by omega))
  rw [List.drop_zero,List.drop_zero] at this;exact ⟨_,this,rfl⟩
theorem zK2 (es j:List AV) (h:vo es) (h':vo j) (J:es.length<=2000000):zAl es j=some (.bool (decide (es=j))):=by
 have loop:es.length=j.length->∀(n i:Nat),i<=es.length->es.length-i<n->zBP n (Int.ofNat i) es j=some (.bool (decide (es.drop i=j.drop i))):=by
  intro H n
  induction n with
  | zero=>intro i _ h;omega
  | succ n I=>
   intro i K M;refine zi ?_
   rw [zHi];refine Wp.lt (λ g=>?_) λ v=>Wp.mk ?_
   ·have f:i<j.length:=H▸g
    obtain ⟨k,a,b,m,p,q,C⟩:=h _ (Qn g);obtain ⟨z,y,w,B,D,E,A⟩:=h' _ (Qn f);refine zB5 ((zA4 g).trans (congrArg some C)) (zB5 ((zA4 f).trans (congrArg some A)) ?_)
    rw [zUE];refine Wp.if (λ hc=>Wp.mk ?_) λ hc=>?_
    ·have hc:(!decide (nd6 k a b m p q=nd6 z y w B D E))=true:=hc;rw [QN];rw [zHP g f,C,A];intro F;rw [QL F.1] at hc;cases hc
    ·have hc:(!decide (nd6 k a b m p q=nd6 z y w B D E))=false:=hc;rw [zf (by omega),I (i+1) g (by omega)]
     refine Wp.mk (congrArg AV.bool (decide_eq_decide.2 ?_))
     rw [zHP g f,C,A];have:nd6 k a b m p q=nd6 z y w B D E:=by simpa using hc
     exact ⟨λ h=>⟨this,h⟩,λ h=>h.2⟩
   ·rw [Qo v,Qo (by omega)];simp
 refine zi ?_
 rw [zIg];refine Wp.if (λ hc=>Wp.mk ?_) λ hc=>?_
 ·have hc:(!(Int.ofNat es.length==Int.ofNat j.length))=true:=hc;have hc:es.length≠j.length:=λ e=>by rw [e] at hc;simp at hc
  rw [QN λ e=>hc (congrArg _ e)]
 ·have hc:(!(Int.ofNat es.length==Int.ofNat j.length))=false:=hc;have hc:es.length=j.length:=by
   have:(Int.ofNat es.length==Int.ofNat j.length)=true:=by simpa using hc
   exact beqN.1 this
  have:=loop hc FUEL 0 (QR _) (zx (by omega))
  rw [List.drop_zero,List.drop_zero] at this;exact ⟨_,this,rfl⟩
def updF (f:Nat->Int) (a:Nat) (v:Int):Nat->Int:=λ j=>if j=a then v else f j
theorem zMt {f:Nat->Int} {a:Nat} {v:Int}:updF f a v a=v:=if_pos rfl
theorem zEg {f:Nat->Int} {a j:Nat} {v:Int} (h:j≠a):updF f a v j=f j:=if_neg h
def UsI (us:List AV) (c:Nat->Int) (m:Nat):Prop:=us.length=m/\∀j,j<m->us[j]? = some (.int .i64 (c j))
theorem zPv {us:List AV} {j:Nat} {x:Int} (h:us[j]? = some (.int .i64 x)):ldE us (Int.toNat (Int.ofNat j)) 0 1 false=some (.int .i64 x):=by
 show (match us[j]? with | some e=>Go.Sy.part e.cells 0 1 false | none=>none)=_
 rw [h];rfl
theorem UsI.set {us:List AV} {c:Nat->Int} {m a:Nat} (h:UsI us c m) (p:a<m) (x:Int):UsI (us.set a (.int .i64 x)) (updF c a x) m:=by
 refine ⟨by rw [List.length_set];exact h.1,λ j f=>?_⟩
 by_cases e:j=a
 ·subst e;rw [zMt,List.getElem?_set_self (by rw [h.1];exact f)]
 ·rw [zEg e,List.getElem?_set_ne (λ g=>e g.symm)]
  exact h.2 j f
section
variable {es us parts:List AV} {n27 n i x m:Nat} {c:Nat->Int} {P:AV->Prop}
theorem zOq (j:UsI us c m) {a:Nat} (hx:parts[x]? = some (.int .i64 (Int.ofNat a))) (q:x<5) (v:a<i) (z:i<=m) (hc:c a=0) (t23 t24:Int) (t22:List AV)
  (h:Wp (zAz n27 n es (Int.ofNat i) t22 t23 t24 (Int.ofNat parts.length) (Int.ofNat (x+1)) (us.set a (.int .i64 1)) parts) P):Wp (zAz n27 (n+1) es (Int.ofNat i) t22 t23 t24 (Int.ofNat parts.length) (Int.ofNat x) us parts) P:=by
 have e:x<parts.length:=(QD.1 hx).1;rw [zDg];refine Wp.lt (λ _=>zGY e (qk_i (zPv hx) (Wp.ite (λ g=>?_) λ y=>Wp.ite (λ g=>?_) λ w=>?_))) λ p=>absurd e (by omega)
 ·rw [qr] at g;omega
 ·rw [qr,qr] at g;omega
 ·have f:a<us.length:=by rw [j.1];omega
  refine zGY f (qk_i (zPv (j.2 a (by omega))) (zGY f ?_))
  rw [zf (by omega),hc]
  exact h
theorem zQv (hx:x=parts.length) (e:i<1000) (t22:List AV) (t23:Int) (h:Wp (zA0 n27 es t22 t23 (Int.ofNat (i+1)) us) P):Wp (zAz n27 (n+1) es (Int.ofNat i) t22 t23 (Int.ofNat i) (Int.ofNat parts.length) (Int.ofNat x) us parts) P:=by
 rw [zDg];refine Wp.lt (λ h=>absurd h (by omega)) λ _=>?_
 rw [zf (by omega)]
 exact h
theorem zSf:FUEL=1180591620717411303421+1+1+1:=zDM
end
def After (c c':Nat->Int) (t:RT) (o:Nat):Prop:=(∀j,j<o->c' j=c j)/\(∀j,o<=j->j<o+t.size-1->c' j=1)/\∀j,o+t.size-1<=j->c' j=0
theorem zSg {es:List AV} {P:AV->Prop} (ae:es.length<=64):∀(t:RT) (o n:Nat) (us:List AV) (c:Nat->Int),Seg es t o->t.kd->o+t.size<=es.length->UsI us c es.length->(∀j,o<=j->c j=0) →
  (∀C c',UsI C c' es.length->After c c' t o->Wp (zA0 n es es (Int.ofNat es.length) (Int.ofNat (o+t.size)) C) P)->Wp (zA0 (n+t.size) es es (Int.ofNat es.length) (Int.ofNat o) us) P:=by
 intro t
 induction t with
 | leaf k a b m=>
  intro o n us c hs w p J hc h;have f:(RT.leaf k a b m).size=1:=rfl;have ab:1<=k:=w.1;have ad:k<=6:=w.2;rw [f] at p h ⊢;rw [zCd];refine Wp.lt (λ _=>zBB hs.leaf (Wp.if (λ E=>?_) λ _=>Wp.if (λ E=>?_) λ _=>?_)) λ E=>by omega
  ·have:k=7:=by simpa using E
   omega
  ·have:k=8:=by simpa using E
   omega
  ·have e9:(k==9)=false:=by simp;omega
   rw [e9,zEZ];refine Wp.if (λ h=>by cases h) λ _=>Wp.if (λ h=>by cases h) λ _=>Wp.if (λ h=>by cases h) λ _=>?_
   rw [zBF,zSf];refine zQv rfl (by omega) _ _ (h us c J ⟨λ j _=>rfl,λ j q H=>?_,λ j q=>hc j ?_⟩)
   ·rw [f] at H;omega
   ·rw [f] at q;omega
 | not t ih=>
  intro o n us c hs w p J hc h;have f:(RT.not t).size=t.size+1:=rfl;have X:=t.size_pos;obtain ⟨S,R⟩:=hs.not;rw [f] at p;rw [f,show n+(t.size+1)=(n+1)+t.size by omega]
  refine ih o (n+1) us c S w (by omega) J hc λ C c' I K=>?_
  rw [zCd];refine Wp.lt (λ _=>zBB R (Wp.if (λ _=>Wp.if (λ h=>by cases h) λ _=>?_) λ h=>by cases h)) λ E=>by omega
  rw [zBF,zSf];refine zOq (parts:=[.int .i64 (Int.ofNat (o+t.size-1))]) (x:=0) I (a:=o+t.size-1) rfl (by omega) (by omega) (by omega) (K.2.2 _ (QB _)) _ _ _ ?_
  refine zQv rfl (by omega) _ _ (h _ (updF c' (o+t.size-1) 1) (I.set (by omega) 1) ⟨λ j M=>?_,λ j q H=>?_,λ j q=>?_⟩)
  ·rw [zEg (by omega)];exact K.1 j M
  ·rw [f] at H;by_cases e:j=o+t.size-1
   ·rw [e,zMt]
   ·rw [zEg e];exact K.2.1 j q (by omega)
  ·rw [f] at q;rw [zEg (by omega)];exact K.2.2 j (by omega)
 | two k t u T Q=>
  intro o n us c hs w p J hc h;have f:(RT.two k t u).size=t.size+u.size+1:=rfl;have aa:=t.size_pos;have ac:=u.size_pos;obtain ⟨S,R,s3⟩:=hs.two;rw [f] at p;rw [show o+(RT.two k t u).size=o+t.size+u.size+1 by omega] at h
  rw [f,show n+(t.size+u.size+1)=(n+1+u.size)+t.size by omega]
  refine T o (n+1+u.size) us c S w.2.1 (by omega) J hc λ U c1 O v=>?_
  refine Q (o+t.size) (n+1) U c1 R w.2.2 (by omega) O (λ j M=>v.2.2 j (by omega)) λ F c2 D g=>?_
  rw [zCd];have two:Wp (zBX n es (Int.ofNat (o+t.size+u.size)) es (Int.ofNat es.length) (Int.ofNat (o+t.size+u.size)) F [.int .i64 (Int.ofNat (o+t.size-1)),.int .i64 (Int.ofNat (o+t.size+u.size-1))]) P:=by
   rw [zBF,zSf];have c21:c2 (o+t.size-1)=0:=by rw [g.1 _ (by omega)];exact v.2.2 _ (QB _)
   have W:c2 (o+t.size+u.size-1)=0:=g.2.2 _ (QB _);refine zOq (parts:=[.int .i64 (Int.ofNat (o+t.size-1)),.int .i64 (Int.ofNat (o+t.size+u.size-1))]) (x:=0) D (a:=o+t.size-1) rfl (by omega) (by omega) (by omega) c21 _ _ _ ?_
   refine zOq (parts:=[.int .i64 (Int.ofNat (o+t.size-1)),.int .i64 (Int.ofNat (o+t.size+u.size-1))]) (x:=1) (D.set (by omega) 1) (a:=o+t.size+u.size-1) rfl (by omega) (by omega) (by omega) (by rw [zEg (by omega)];exact W) _ _ _ ?_
   refine zQv rfl (by omega) _ _ (h _ (updF (updF c2 (o+t.size-1) 1) (o+t.size+u.size-1) 1) ((D.set (by omega) 1).set (by omega) 1) ⟨λ j M=>?_,λ j q H=>?_,λ j q=>?_⟩)
   ·rw [zEg (by omega),zEg (by omega),g.1 j (by omega)];exact v.1 j M
   ·rw [f] at H;by_cases e1:j=o+t.size+u.size-1
    ·rw [e1,zMt]
    ·rw [zEg e1];by_cases e2:j=o+t.size-1
     ·rw [e2,zMt]
     ·rw [zEg e2];by_cases e3:j<o+t.size
      ·rw [g.1 j e3];exact v.2.1 j q (by omega)
      ·exact g.2.1 j (by omega) (by omega)
   ·rw [f] at q;rw [zEg (by omega),zEg (by omega)];exact g.2.2 j (by omega)
  have Y:∀(A B:List Nat) (x y z:Int),x=Int.ofNat 0->y=Int.ofNat (o+t.size-1)->z=Int.ofNat (o+t.size+u.size-1)->Wp (zDu n es (Int.ofNat (o+t.size+u.size)) es (Int.ofNat es.length) (Int.ofNat (o+t.size+u.size)) true k A B x y z F []) P:=λ A B x y z hx hy V=>by
   subst hy;subst V;rw [zEZ];exact Wp.if (λ _=>two) λ h=>by cases h
  refine Wp.lt (λ _=>zBB s3 ?_) λ E=>by omega
  rcases w.1 with rfl | rfl
  ·exact Wp.if (λ h=>by cases h) λ _=>Wp.if (λ _=>Y _ _ _ _ _ rfl rfl rfl) λ h=>by cases h
  ·exact Wp.if (λ h=>by cases h) λ _=>Wp.if (λ h=>by cases h) λ _=>Y _ _ _ _ _ rfl rfl rfl
theorem zTq (t:RT) (F:t.kd) (A:t.size<=64):zGg (t.fl 0)=some (.bool true):=by
 have g:(t.fl 0).length=t.size:=t.fl_length 0;have q:=t.size_pos;refine zi ?_
 rw [zJr,g];refine Wp.ite (λ h=>?_) λ _=>Wp.ite (λ h=>?_) λ _=>?_
 ·rw [qr] at h;omega
 ·rw [qr] at h;omega
 rw [zHo,g];have z:Int.toNat (Int.ofNat t.size)=t.size:=rfl;refine Wp.gd ⟨Qa _,Int.le_refl _,?_,?_⟩ ?_
 ·rw [z];unfold zg;omega
 ·rw [z];unfold zg;omega
 rw [z];obtain ⟨N,I⟩:∃N,FUEL=(N+1)+t.size:=⟨FUEL-t.size-1,by have:=zx (n:=1000) (by omega);omega⟩
 rw [I];have:=zSg (es:=t.fl 0) (P:=λ v=>v=.bool true) (by rw [g];exact A) t 0 (N+1) (List.replicate t.size (.int .i64 0)) (λ _=>0) (Seg.whole t) F (by rw [g];omega) ⟨by rw [g,List.length_replicate],λ j B=>?_⟩ (λ _ _=>rfl) λ w J e C=>?_
 ·rw [g] at this;exact this
 ·rw [g] at B;exact QD.2 ⟨by rw [List.length_replicate];exact B,by rw [List.getElem_replicate]⟩
 ·rw [g] at e ⊢;rw [zCd];refine Wp.lt (λ h=>by omega) λ _=>?_
  have y:∀(n i:Nat),i<=t.size->t.size-i<n->Wp (zCi n (t.fl 0) (Int.ofNat t.size) (Int.ofNat i) w) λ v=>v=.bool true:=by
   intro n
   induction n with
   | zero=>intro i _ h;omega
   | succ n D=>
    intro i K M;have p:wrapx .i64 (Int.ofNat t.size-1)=Int.ofNat (t.size-1):=zA5 q (by omega)
    rw [zG3,g,e.1,p];refine Wp.lt (λ f=>zGY f (qk_i (zPv (e.2 i f)) ?_)) λ E=>zGY (by omega) (qk_i (zPv (e.2 _ (by omega))) (Wp.mk ?_))
    ·rw [zf (by omega)]
     refine Wp.lt (λ H=>Wp.if (λ h=>?_) λ _=>D (i+1) f (by omega)) λ _=>D (i+1) f (by omega)
     rw [C.2.1 i (QR _) (by omega)] at h
     cases h
    ·rw [C.2.2 (t.size-1) (by omega)];rfl
  rw [e.1];exact y FUEL 0 (QR _) (zx (by omega))
theorem zII {s:List Nat} (h8:∀c∈s,c<256) {e f:Int} (h:zDq s=.error (e,f)):(e==0&&f==0)=false:=by
 unfold zDq at h;split at h
 ·cases h;rfl
 rename_i A;have j:s.length<=65536:=by omega
 obtain ⟨v,C,q⟩:=or_A j h8 FUEL [] 0 0 (Qh (zx (by omega))) ⟨QR _,by omega,QB _⟩
 rcases q.cases with ⟨i,n,t,g,_⟩ | ⟨z,B,g,p,_⟩ | ⟨y,i,w,D,g,_⟩
 ·rw [g] at h;simp only at h;split at h
  ·cases h;rfl
  ·split at h
   ·cases h;rfl
   ·cases h
 ·rw [g] at h;cases h;exact p
 ·rw [g] at h;cases h;rfl
def RT.by (f:Nat->Prop):RT->Prop
 | .leaf k a b n=>(∀c∈a,f c)/\∀c∈b,f c
 | .not t=>t.by f
 | .two k t u=>t.by f/\u.by f
theorem zOr {c:Nat} (h:namB c=true):okQ' c:=by
 unfold namB lowB digB at h;simp at h;unfold okQ';omega
theorem zVL {c:Nat} (h:wrdB c=true):okQ' c:=by
 have h:=QO h;unfold okQ';omega
theorem RT.wf.by {t:RT} (h:t.wf):t.by okQ':=by
 induction t with
 | leaf k a b n=>
  rcases h with ⟨_,rfl,rfl,_⟩ | ⟨f,_,⟨_,j,_⟩ | ⟨_,rfl,_⟩ | ⟨_,rfl,_⟩⟩
  ·exact ⟨λ c h=>(by cases h),λ c h=>(by cases h)⟩
  ·exact ⟨λ c hc=>zOr (f.2.2 c hc),λ c hc=>zVL (j.2.2 c hc)⟩
  ·exact ⟨λ c hc=>zOr (f.2.2 c hc),λ c h=>(by cases h)⟩
  ·exact ⟨λ c hc=>zOr (f.2.2 c hc),λ c h=>(by cases h)⟩
 | not t p=>exact p h
 | two k t u g e=>exact ⟨g h.2.1,e h.2.2⟩
theorem zRB (n:Int):okS (decI n):=by
 unfold decI Lib.itoa;split
 ·intro c hc;rcases QH.1 hc with rfl | hc
  ·decide
  ·exact zJO _ c hc
 ·exact zJO _
theorem zMu {f:Nat->Prop} (j:∀c,okQ' c->f c):∀{t:RT},t.by f->∀c∈t.told,f c
 | .leaf k a b n,h=>λ c hc=>by
  have A:∀c∈decI n,f c:=λ c hc=>j c (zRB n c hc)
  have e:∀l:List Nat,l.all (λ c=>decide (okQ' c))=true->∀c∈l,f c:=λ l e c hc=>j c (QO (QG.1 e c hc))
  have app:∀{x y:List Nat},(∀c∈x,f c)->(∀c∈y,f c)->∀c∈x++y,f c:=λ z v c hc=>(QI.1 hc).elim (z c) (v c)
  have hc:c∈zHO k a b n:=hc;unfold zHO at hc;split at hc
  ·exact e _ rfl c hc
  split at hc
  ·exact app (app h.1 (e _ rfl)) h.2 c hc
  split at hc
  ·exact app (app h.1 (e _ rfl)) h.2 c hc
  split at hc
  ·exact app (app h.1 (e _ rfl)) A c hc
  split at hc
  ·exact app (app h.1 (e _ rfl)) A c hc
  ·exact h.1 c hc
 | .not t,h=>by
  have e:∀l:List Nat,l.all (λ c=>decide (okQ' c))=true->∀c∈l,f c:=λ l e c hc=>j c (QO (QG.1 e c hc))
  have app:∀{x y:List Nat},(∀c∈x,f c)->(∀c∈y,f c)->∀c∈x++y,f c:=λ z v c hc=>(QI.1 hc).elim (z c) (v c)
  have p:∀(g m:Int) (w:List Nat),(∀c∈w,f c)->∀c∈parT g m w,f c:=λ g m w q=>by
   unfold parT;split
   ·exact app (app (e _ rfl) q) (e _ rfl)
   ·exact q
  exact app (e _ rfl) (p _ _ _ (zMu (t:=t) j h))
 | .two k t u,h=>by
  have e:∀l:List Nat,l.all (λ c=>decide (okQ' c))=true->∀c∈l,f c:=λ l e c hc=>j c (QO (QG.1 e c hc))
  have app:∀{x y:List Nat},(∀c∈x,f c)->(∀c∈y,f c)->∀c∈x++y,f c:=λ z v c hc=>(QI.1 hc).elim (z c) (v c)
  have p:∀(g m:Int) (w:List Nat),(∀c∈w,f c)->∀c∈parT g m w,f c:=λ g m w q=>by
   unfold parT;split
   ·exact app (app (e _ rfl) q) (e _ rfl)
   ·exact q
  have C:=zMu (t:=t) j h.1;have B:=zMu (t:=u) j h.2;rw [RT.told];split
  ·exact app (app (p _ _ _ C) (e _ rfl)) (p _ _ _ B)
  ·exact app (app (p _ _ _ C) (e _ rfl)) (p _ _ _ B)
theorem RT.wf.h8 {t:RT} (h:t.wf):∀c∈t.told,c<256:=λ c hc=>by
 exact zMu (f:=okQ') (λ c h=>h) h.by c hc
noncomputable def chkR (t:RT):Int:=match zDq t.told with
 | .ok u=>if u.fl 0=t.fl 0 then 0 else 2
 | .error _=>2
theorem zH7 (t:RT) (j:t.wf) (q:t.size<=64):zBG (t.fl 0)=some (.int .i64 (chkR t)):=by
 have v:(t.fl 0).length=t.size:=t.fl_length 0;have p:=t.size_pos;refine zi ?_
 rw [zJX];refine qk_b (zTq t j.kd q) (Wp.if (λ h=>by cases h) λ _=>?_)
 have g:=zH1 (es:=t.fl 0) (M:=56) (by decide) t 0 FUEL (Qh (zx (by omega))) (by omega) (Seg.whole t) j.bd.1 j.kd
 rw [QV] at g;rw [v,zA5 p (by omega)]
 refine qk_s g ?_
 rw [zLf _ j.h8];unfold chkR;cases hp:zDq t.told with
 | error e=>
  obtain ⟨e,f⟩:=e;have w:=zII j.h8 hp;show Wp (br (!(e==0&&f==0)) _ _) _
  rw [w];exact Wp.mk rfl
 | ok u=>
  obtain ⟨A,z,y⟩:=zHZ hp;show Wp (dK true [K.b] (zK (u.fl 0) (t.fl 0)) _) _
  refine qk_b (zK1 _ _ (zFi u 0) (zFi t 0) (by rw [RT.fl_length];omega)) (Wp.if (λ h=>Wp.mk ?_) λ h=>Wp.mk ?_)
  ·show _=AV.int .i64 (if u.fl 0=t.fl 0 then 0 else 2)
   rw [if_neg (by simpa using h)];rfl
  ·show _=AV.int .i64 (if u.fl 0=t.fl 0 then 0 else 2)
   rw [if_pos (by simpa using h)];rfl
end Go.Proofs.YtdeeimaahdgeaaaGreatDoor.spec
namespace Go.Proofs.YtdeeimaahdgeaaaGreatDoor.spec
open Go Go.Sy
variable [MX]
def zPw (a:List Nat):Bool:=a.all wrdB&&decide (1<=a.length/\a.length<=32)
theorem zQw (a:List Nat) (j:a.length<=2000000):zDH a=some (.bool (zPw a)):=by
 have loop:∀(n i:Nat),i<=a.length->a.length-i<n->zBM n a (Int.ofNat i)=some (.bool ((a.drop i).all wrdB&&decide (1<=a.length/\a.length<=32))):=by
  intro n
  induction n with
  | zero=>intro i _ h;omega
  | succ n g=>
   intro i p q;refine zi ?_
   rw [zHh];refine Wp.lt (λ e=>Wp.bd (R:=λ c=>c=a[i]) ⟨_,zA4 e,rfl⟩ λ c hc=>qk_b (zJc c) ?_) λ f=>Wp.ite (λ h=>Wp.mk ?_) λ h=>Wp.mk ?_
   ·subst hc;rw [Qg e,QX];refine Wp.if (λ h=>Wp.mk ?_) λ h=>?_
    ·have:wrdB a[i]=false:=by simpa using h
     rw [this];rfl
    ·have:wrdB a[i]=true:=by simpa using h
     rw [zf (by omega),g (i+1) e (by omega),this]
     exact Wp.mk rfl
   ·rw [Qo f];rw [qr] at h ⊢;show _=AV.bool (decide (1<=a.length/\a.length<=32))
    exact congrArg AV.bool (decide_eq_decide.2 (by omega))
   ·rw [Qo f];rw [qr] at h;show _=AV.bool (decide (1<=a.length/\a.length<=32))
    rw [QN (by omega)]
 have:=loop FUEL 0 (QR _) (zx (by omega))
 rw [zIf];exact this
theorem zUo {m:Nat} {a:List Nat} (h:zKp m a):zAp m a=true:=by
 unfold zAp;rw [QL h.1,h.2.1,QG.2 h.2.2];rfl
theorem zUp {a:List Nat} (h:zQi a):zPw a=true:=by
 unfold zPw;have:1<=a.length:=List.length_pos_iff.2 h.1;rw [QG.2 h.2.2,QL ⟨this,h.2.1⟩];rfl
theorem zSh {k:Int} {a b:List Nat} {n:Int} (h:zTf k a b n):zAB k a b n (Int.negSucc 0) (Int.negSucc 0)=some (.bool true):=by
 have z:∀e:Bool,zAL e k a b n (Int.negSucc 0) (Int.negSucc 0)=zAK e true k a b n (Int.negSucc 0) (Int.negSucc 0):=λ e=>by
  rw [zCf];rfl
 refine zi ?_
 rw [zCL];rcases h with ⟨rfl,rfl,rfl,rfl⟩ | ⟨w,A,B⟩
 ·refine qk_b (zHx [] 24 (by decide)) (Wp.if (λ h=>by cases h) λ _=>?_)
  rw [z,zA9];exact Wp.if (λ _=>Wp.if (λ _=>Wp.if (λ _=>Wp.if (λ _=>Wp.mk rfl) λ h=>by cases h) λ h=>by cases h) λ h=>by cases h) λ h=>by cases h
 ·have C:a.length<=24:=w.1;refine qk_b (zHx a 24 (by omega)) ?_
  rw [zUo w];have j:(!seqb a [97,110,121])=true:=by rw [zAP,QN A];rfl
  refine Wp.if (λ _=>?_) λ h=>by cases h
  rw [j,z,zA9];rcases B with ⟨g,q,rfl⟩ | ⟨g,rfl,y⟩ | ⟨rfl,rfl,rfl⟩
  ·have f:Wp (zU true true k true k a b 0 (Int.negSucc 0) (Int.negSucc 0)) λ v=>v=.bool true:=by
    rw [zAr];refine Wp.if (λ _=>Wp.if (λ _=>Wp.if (λ _=>qk_b (zQw b (by have:=q.2.1;omega)) ?_) λ h=>by cases h) λ h=>by cases h) λ h=>by cases h
    rw [zUp q];exact Wp.if (λ _=>Wp.mk rfl) λ h=>by cases h
   rcases g with rfl | rfl
   ·exact Wp.if (λ h=>by cases h) λ _=>Wp.if (λ _=>f) λ h=>by cases h
   ·exact Wp.if (λ h=>by cases h) λ _=>Wp.if (λ h=>by cases h) λ _=>f
  ·have p:Wp (zAe true true k true k a [] n (Int.negSucc 0) (Int.negSucc 0)) λ v=>v=.bool true:=by
    rw [zA8];refine Wp.if (λ _=>Wp.if (λ _=>Wp.if (λ _=>Wp.if (λ _=>Wp.ite (λ _=>Wp.mk ?_) λ h=>absurd y.1 h) λ h=>by cases h) λ h=>by cases h) λ h=>by cases h) λ h=>by cases h
    rw [QL y.2]
   have f:Wp (zU true true k false k a [] n (Int.negSucc 0) (Int.negSucc 0)) λ v=>v=.bool true:=by
    rw [zAr];rcases g with rfl | rfl
    ·exact Wp.if (λ h=>by cases h) λ _=>Wp.if (λ _=>p) λ h=>by cases h
    ·exact Wp.if (λ h=>by cases h) λ _=>Wp.if (λ h=>by cases h) λ _=>p
   rcases g with rfl | rfl
   ·exact Wp.if (λ h=>by cases h) λ _=>Wp.if (λ h=>by cases h) λ _=>f
   ·exact Wp.if (λ h=>by cases h) λ _=>Wp.if (λ h=>by cases h) λ _=>f
  ·refine Wp.if (λ h=>by cases h) λ _=>Wp.if (λ h=>by cases h) λ _=>?_
   rw [zAr];refine Wp.if (λ h=>by cases h) λ _=>Wp.if (λ h=>by cases h) λ _=>?_
   rw [zA8];exact Wp.if (λ h=>by cases h) λ _=>Wp.if (λ _=>Wp.if (λ _=>Wp.if (λ _=>Wp.if (λ _=>Wp.mk rfl) λ h=>by cases h) λ h=>by cases h) λ h=>by cases h) λ h=>by cases h
theorem zQx {k:Int} {p:Nat} {q:Int} (e:k=7/\q=Int.negSucc 0\/(k=8\/k=9)/\∃b:Nat,q=Int.ofNat b):zAB k [] [] (Int.ofNat 0) (Int.ofNat p) q=some (.bool true):=by
 refine zi ?_
 rw [zCL];refine qk_b (zHx [] 24 (by decide)) (Wp.if (λ h=>by cases h) λ _=>?_)
 rw [zCf];refine Wp.if (λ h=>by cases h) λ _=>?_
 rw [zA9];have f:Wp (zAJ true k [] [] (Int.ofNat 0) (Int.ofNat p) q) λ v=>v=.bool true:=by
  rw [zDZ];exact Wp.if (λ _=>Wp.if (λ _=>Wp.if (λ _=>Wp.mk rfl) λ h=>by cases h) λ h=>by cases h) λ h=>by cases h
 have j:Wp (zU false false k false k [] [] (Int.ofNat 0) (Int.ofNat p) q) λ v=>v=.bool true:=by
  rw [zAr];have g:Wp (zAe false false k false k [] [] (Int.ofNat 0) (Int.ofNat p) q) λ v=>v=.bool true:=by
   rw [zA8];rcases e with ⟨rfl,rfl⟩ | ⟨rfl | rfl,_⟩
   ·exact Wp.if (λ h=>by cases h) λ _=>Wp.if (λ h=>by cases h) λ _=>Wp.if (λ _=>Wp.if (λ _=>Wp.if (λ _=>Wp.if (λ _=>Wp.mk rfl) λ h=>by cases h) λ h=>by cases h) λ h=>by cases h) λ h=>by cases h
   ·exact Wp.if (λ h=>by cases h) λ _=>Wp.if (λ h=>by cases h) λ _=>Wp.if (λ h=>by cases h) λ _=>Wp.if (λ _=>f) λ h=>by cases h
   ·exact Wp.if (λ h=>by cases h) λ _=>Wp.if (λ h=>by cases h) λ _=>Wp.if (λ h=>by cases h) λ _=>Wp.if (λ h=>by cases h) λ _=>f
  rcases e with ⟨rfl,rfl⟩ | ⟨rfl | rfl,_⟩ <;> exact Wp.if (λ h=>by cases h) λ _=>Wp.if (λ h=>by cases h) λ _=>g
 rcases e with ⟨rfl,rfl⟩ | ⟨rfl | rfl,_⟩ <;> exact Wp.if (λ h=>by cases h) λ _=>Wp.if (λ h=>by cases h) λ _=>j
def zWz (i:Nat) (v:AV):Prop:=∃k a b n l r,v=nd6 k a b n l r/\zAB k a b n l r=some (.bool true)/\-1<=l/\l<i/\-1<=r/\r<i/\(7<=k->0<=l)/\(8<=k->0<=r)
theorem zMv:∀{t:RT} {es:List AV} {o:Nat},t.wf->Seg es t o->∀j,j<t.size->∃v,es[o+j]? = some v/\zWz (o+j) v
 | .leaf k a b n,es,o,e,hs,j,f=>by
  have f:j<1:=f;obtain rfl:j=0:=by omega
  have y:=(RT.wf.kd (t:=.leaf k a b n) e).2;exact ⟨_,hs.leaf,_,_,_,_,_,_,rfl,zSh e,by decide,by rw [show Int.negSucc 0=-1 from rfl];omega,by decide,by rw [show Int.negSucc 0=-1 from rfl];omega,λ h=>by omega,λ h=>by omega⟩
 | .not t,es,o,e,hs,j,f=>by
  obtain ⟨p,g⟩:=hs.not;have f:j<t.size+1:=f;have:=t.size_pos;by_cases h:j<t.size
  ·exact zMv (t:=t) e p j h
  ·obtain rfl:j=t.size:=by omega
   refine ⟨_,g,_,_,_,_,_,_,rfl,zQx (.inl ⟨rfl,rfl⟩),?_,?_,by decide,?_,λ _=>Qa _,λ h=>by omega⟩
   ·rw [qr];omega
   ·rw [qr];omega
   ·rw [show Int.negSucc 0=-1 from rfl];omega
 | .two k t u,es,o,e,hs,j,f=>by
  obtain ⟨p,g,q⟩:=hs.two;have f:j<t.size+u.size+1:=f;have:=t.size_pos;have:=u.size_pos;by_cases h:j<t.size
  ·exact zMv (t:=t) e.2.1 p j h
  ·by_cases w:j<t.size+u.size
   ·have:=zMv (t:=u) e.2.2 g (j-t.size) (by omega)
    rwa [show o+t.size+(j-t.size)=o+j by omega] at this
   ·obtain rfl:j=t.size+u.size:=by omega
    rw [←Nat.add_assoc];refine ⟨_,q,_,_,_,_,_,_,rfl,zQx (.inr ⟨e.1,_,rfl⟩),?_,?_,?_,?_,λ _=>Qa _,λ h=>Qa _⟩ <;> rw [qr] <;> omega
theorem zUq {es:List AV}:∀(t:RT) (o d:Nat),t.size<=d->t.size<=64->Seg es t o->zAO d es (Int.ofNat (o+t.size-1))=some (.int .i64 (Int.ofNat t.size)):=by
 intro t
 induction t with
 | leaf k a b n=>
  intro o d w y hs;have f:(RT.leaf k a b n).size=1:=rfl;obtain ⟨d,rfl⟩:∃e,d=e+1:=⟨d-1,by omega⟩
  refine zi ?_
  rw [zBT,f,show o+1-1=o by omega]
  refine zBB hs.leaf (Wp.ite (λ h=>by exact absurd h (by decide)) λ _=>?_)
  rw [zBd];refine zBB hs.leaf (Wp.ite (λ h=>by exact absurd h (by decide)) λ _=>?_)
  rw [zBc];refine Wp.if (λ h=>by cases h) λ _=>?_
  rw [zAy];exact Wp.mk rfl
 | not t z=>
  intro o d w y hs;have f:(RT.not t).size=t.size+1:=rfl;obtain ⟨d,rfl⟩:∃e,d=e+1:=⟨d-1,by omega⟩
  refine zi ?_
  obtain ⟨q,g⟩:=hs.not;rw [zBT,f,show o+(t.size+1)-1=o+t.size by omega]
  refine zBB g (Wp.ite (λ _=>zBB g (qk_i (z o d (by omega) (by omega) q) ?_)) λ h=>by exact absurd (Qa _) h)
  rw [show wrapx .i64 (Int.ofNat 1+Int.ofNat t.size)=Int.ofNat (t.size+1) by rw [zT (by rw [qr,qr];omega) (by rw [qr,qr];omega),qr,qr,qr];omega]
  rw [zBd];refine zBB g (Wp.ite (λ h=>by exact absurd h (by decide)) λ _=>?_)
  rw [zBc];refine Wp.if (λ h=>by cases h) λ _=>?_
  rw [zAy];exact Wp.mk rfl
 | two k t u v p=>
  intro o d w y hs;have f:(RT.two k t u).size=t.size+u.size+1:=rfl;have:=t.size_pos;have:=u.size_pos;obtain ⟨d,rfl⟩:∃e,d=e+1:=⟨d-1,by omega⟩
  refine zi ?_
  obtain ⟨q,g,j⟩:=hs.two;rw [zBT,f,show o+(t.size+u.size+1)-1=o+t.size+u.size by omega]
  refine zBB j (Wp.ite (λ _=>zBB j (qk_i (v o d (by omega) (by omega) q) ?_)) λ h=>by exact absurd (Qa _) h)
  rw [show wrapx .i64 (Int.ofNat 1+Int.ofNat t.size)=Int.ofNat (t.size+1) by rw [zT (by rw [qr,qr];omega) (by rw [qr,qr];omega),qr,qr,qr];omega]
  rw [zBd];refine zBB j (Wp.ite (λ _=>?_) λ h=>by exact absurd (Qa _) h)
  rw [QL (show Int.ofNat (t.size+1)<=64 by rw [qr];omega),zBc]
  refine Wp.if (λ _=>zBB j (qk_i (p (o+t.size) d (by omega) (by omega) g) ?_)) λ h=>by cases h
  rw [zAy];refine Wp.mk ?_
  rw [zT (by rw [qr,qr];omega) (by rw [qr,qr];omega),qr,qr,qr]
  congr 1;omega
theorem zL3 (t:RT) (w:t.wf) (z:t.size<=64):zG (t.fl 0)=some (.int .i64 (chkR t)):=by
 have H:(t.fl 0).length=t.size:=t.fl_length 0;have q:=t.size_pos;have loop:∀(n i:Nat),i<=t.size->t.size-i<n->Wp (zy n (Int.ofNat t.size) (Int.ofNat i) (t.fl 0)) λ v=>v=.int .i64 (chkR t):=by
  intro n
  induction n with
  | zero=>intro i _ h;omega
  | succ n O=>
   intro i V W;rw [zDF];refine Wp.lt (λ p=>?_) λ D=>?_
   ·obtain ⟨v,C,k,a,b,m,l,r,rfl,y,X,J,R,I,E,B⟩:=zMv w (Seg.whole t) i p;rw [QV] at C J I;have next:=O (i+1) p (by omega)
    rw [←zf (by omega)] at next
    refine zBB C (qk_b y (Wp.if (λ h=>by cases h) λ _=>Wp.ite (λ h=>?_) λ _=>Wp.ite (λ h=>?_) λ _=>Wp.ite (λ h=>?_) λ _=>Wp.ite (λ h=>?_) λ _=>Wp.ite (λ F=>Wp.ite (λ h=>?_) λ _=>Wp.ite (λ h8=>Wp.ite (λ h=>?_) λ _=>next) λ _=>next) λ _=>Wp.ite (λ h8=>Wp.ite (λ h=>?_) λ _=>next) λ _=>next))
    ·omega
    ·rw [qr] at h;omega
    ·omega
    ·rw [qr] at h;omega
    ·have:=E F;omega
    ·have:=B h8;omega
    ·have:=B h8;omega
   ·have j:=zNg (es:=t.fl 0) (M:=56) (by decide) t 0 FUEL 0 (Qh (zx (by omega))) (by omega) (Seg.whole t) w.bd.1 w.bd.2 w.kd
    have g:=zUq (es:=t.fl 0) t 0 FUEL (Qh (zx (by omega))) z (Seg.whole t)
    have A:parT t.tg 0 t.told=t.told:=by
     unfold parT;have:¬t.tg<0:=by
      unfold RT.tg;split
      ·repeat' split
       all_goals decide
      ·decide
     rw [if_neg this]
    rw [A,QV] at j;rw [QV] at g;rw [zA5 q (by omega)]
    refine qk_i g (Wp.if (λ h=>?_) λ _=>qk_s j ?_)
    ·have h:(!(Int.ofNat t.size==Int.ofNat t.size))=true:=h;simp at h
    rw [zO4];unfold chkR;cases hp:zDq t.told with
    | error e=>
     obtain ⟨e,f⟩:=e;have Q:=zII w.h8 hp;show Wp (br (!(e==0&&f==0)) _ _) _
     rw [Q];exact Wp.mk rfl
    | ok u=>
     obtain ⟨T,S,U⟩:=zHZ hp;show Wp (dK true [K.b] (zAl (u.fl 0) (t.fl 0)) _) _
     refine qk_b (zK2 _ _ (zFi u 0) (zFi t 0) (by rw [RT.fl_length];omega)) (Wp.if (λ h=>Wp.mk ?_) λ h=>Wp.mk ?_)
     ·show _=AV.int .i64 (if u.fl 0=t.fl 0 then 0 else 2)
      rw [if_neg (by simpa using h)];rfl
     ·show _=AV.int .i64 (if u.fl 0=t.fl 0 then 0 else 2)
      rw [if_pos (by simpa using h)];rfl
 refine zi ?_
 rw [zEu,H];refine Wp.ite (λ h=>?_) λ _=>Wp.ite (λ h=>?_) λ _=>?_
 ·rw [qr] at h;omega
 ·rw [qr] at h;omega
 rw [zD0];exact loop FUEL 0 (QR _) (zx (by omega))
theorem zTr {β:Type} {p:Prop} [Decidable p] {x y:Option β}:br (decide p) x y=if p then x else y:=by
 by_cases h:p
 ·rw [QL h,if_pos h];rfl
 ·rw [QN h,if_neg h];rfl
theorem zHz (s:List Nat) (y:s.length<=2000000):zD4 s=some (.bool (zAp 16 s)):=by
 have loop:∀(n i:Nat),i<=s.length->s.length-i<n->zFE n (Int.ofNat (bytes s).length) (Int.ofNat i) (bytes s)=some (.bool ((s.drop i).all namB)):=by
  intro n
  induction n with
  | zero=>intro i _ h;omega
  | succ n C=>
   intro i D E;refine zi ?_
   rw [zMD];rw [Qb];refine Wp.lt (λ h=>zGY h (qk_u (zWr h) ?_)) λ j=>Wp.mk ?_
   ·have next:∀b:Bool,b=!namB s[i]->Wp (zBm n (Int.ofNat s.length) (Int.ofNat i) b (bytes s)) λ v=>v=.bool ((s.drop i).all namB):=λ b g=>by
     rw [zMC,Qg h,QX];refine Wp.if (λ q=>Wp.mk ?_) λ q=>?_
     ·have:namB s[i]=false:=by rw [q] at g;simpa using g.symm
      rw [this];rfl
     ·have:namB s[i]=true:=by rw [q] at g;simpa using g.symm
      have:=C (i+1) h (by omega)
      rw [Qb] at this;rw [zf (by omega),this,‹namB s[i]=true›]
      exact Wp.mk rfl
    generalize s[i]=c at next
    repeat' first | refine Wp.ite (λ _=>?_) (λ _=>?_) | refine next _ ?_
    all_goals simp only [qr] at *
    all_goals unfold namB lowB digB
    all_goals rw [Bool.eq_iff_iff]
    all_goals simp
    all_goals omega
   ·rw [Qo j];rfl
 have f:∀b:Bool,(b=true->zAp 16 s=false)->(b=false->zAp 16 s=s.all namB)->zDl s b=some (.bool (zAp 16 s)):=λ b w p=>by
  refine zi ?_
  rw [zMF];refine Wp.if (λ h=>Wp.mk (by rw [w h])) λ h=>?_
  rw [zME];refine ⟨_,loop FUEL 0 (QR _) (zx (by omega)),?_⟩
  rw [p h];rfl
 refine zi ?_
 rw [zOs];refine Wp.ite (λ h=>⟨_,f _ (λ _=>?_) (λ h=>by cases h),rfl⟩) λ A=>Wp.ite (λ h=>⟨_,f _ (λ _=>?_) (λ h=>by cases h),rfl⟩) λ w=>?_
 ·unfold zAp;rw [zCb (by rw [qr] at h;omega)];simp
 ·unfold zAp;rw [QN (by rw [qr] at h;omega)];simp
 ·rw [qr] at A w;have y:0<s.length:=by omega
  have B:ixN s 0=some s[0]:=zA4 y;have z:decide (s.length<=16)=true:=QL (by omega)
  have e:isAt lowB s 0=lowB s[0]:=zAX y;rw [B];refine Wp.ite (λ h=>⟨_,f _ (λ _=>?_) (λ h=>by cases h),rfl⟩) λ p=>⟨_,f _ (λ h=>?_) (λ h=>?_),rfl⟩
  ·unfold zAp;rw [z,e];unfold lowB;rw [QN (by rw [qr] at h;omega)];simp
  ·have h:=QO h;unfold zAp;rw [z,e];unfold lowB;rw [QN (by rw [qr] at h;omega)];simp
  ·have h:=Qq h;unfold zAp;rw [z,e];unfold lowB;rw [QL (by rw [qr] at h p;omega)];simp
theorem zJT (s:List Nat) (e:s.length<=2000000):zAk s=some (.bool (zAp 16 s)):=by
 refine zi ?_
 rw [zIc];exact qk_b (zHx s 16 e) (Wp.mk rfl)
theorem zK3 {l:List AV} {v s:List Nat} {n i:Nat} (f:l[i]? = some (.str s)) (g:l.length<=2000):zAh (n+1) l v (Int.ofNat l.length) (Int.ofNat i)=if v=s then some (.int .i64 (Int.ofNat i)) else zAh n l v (Int.ofNat l.length) (Int.ofNat (i+1)):=by
 have e:=(QD.1 f).1;rw [zC5,QL (show Int.ofNat i<Int.ofNat l.length from Int.ofNat_lt.2 e),zKl,f,zf (by omega)]
 show br (seqb v s) _ _=_
 rw [zAP,zTr]
theorem zJU {l:List AV} {v s:List Nat} {n i:Nat} (f:l[i]? = some (.str s)) (g:l.length<=2000):zAo (n+1) v l (Int.ofNat i)=if s=v then some (.int .i64 (Int.ofNat i)) else zAo n v l (Int.ofNat (i+1)):=by
 have e:=(QD.1 f).1;rw [zD6,QL (show Int.ofNat i<Int.ofNat l.length from Int.ofNat_lt.2 e),zKl,f,zf (by omega)]
 show br (seqb s v) _ _=_
 rw [zAP,zTr]
theorem zTs (v:List Nat):∃n:Int,zJ7 v=some (.int .i64 n)/\zDG v=some (.int .i64 n)/\n<=3:=by
 have C:∀{L:List AV},L=[AV.str [102,114,101,101],AV.str [98,97,116,99,104],AV.str [112,114,111,100],AV.str [109,111,110,105,116,111,114,105,110,103]]->∃n:Int,zBn L v=some (.int .i64 n)/\zAo FUEL v L (Int.ofNat 0)=some (.int .i64 n)/\n<=3:=λ{L} f=>by
  have A:L[0]? = some (.str [102,114,101,101]):=by rw [f];rfl
  have w:L[1]? = some (.str [98,97,116,99,104]):=by rw [f];rfl
  have q:L[2]? = some (.str [112,114,111,100]):=by rw [f];rfl
  have y:L[3]? = some (.str [109,111,110,105,116,111,114,105,110,103]):=by rw [f];rfl
  have B:L.length=4:=by rw [f];rfl
  have e:L.length<=2000:=by omega
  rw [zGC,show FUEL=1180591620717411303419+1+1+1+1+1 from zDM]
  rw [zK3 A e,zK3 w e,zK3 q e,zK3 y e,zJU A e,zJU w e,zJU q e,zJU y e];rw [zC5,zD6,B];rw [QN (show ¬Int.ofNat (3+1)<Int.ofNat 4 by decide)]
  by_cases g:v=[102,114,101,101]
  ·exact ⟨0,if_pos g,if_pos g.symm,by decide⟩
  rw [if_neg g,if_neg (show ¬[102,114,101,101]=v from λ h=>g h.symm)]
  by_cases j:v=[98,97,116,99,104]
  ·exact ⟨1,if_pos j,if_pos j.symm,by decide⟩
  rw [if_neg j,if_neg (show ¬[98,97,116,99,104]=v from λ h=>j h.symm)]
  by_cases z:v=[112,114,111,100]
  ·exact ⟨2,if_pos z,if_pos z.symm,by decide⟩
  rw [if_neg z,if_neg (show ¬[112,114,111,100]=v from λ h=>z h.symm)]
  by_cases p:v=[109,111,110,105,116,111,114,105,110,103]
  ·exact ⟨3,if_pos p,if_pos p.symm,by decide⟩
  rw [if_neg p,if_neg (show ¬[109,111,110,105,116,111,114,105,110,103]=v from λ h=>p h.symm)]
  exact ⟨Int.negSucc 0,rfl,rfl,by decide⟩
 obtain ⟨n,w,q,y⟩:=C rfl;refine ⟨n,?_,?_,y⟩
 ·rw [zOt,zG1];show dK true [K.i IntKind.i64] (zBn _ v) _=_
  rw [w];rfl
 ·rw [zId,zCI];exact q
def plB (c:Nat):Bool:=decide (33<=c/\c<=126/\c≠35/\c≠34)
def eqE (L:List Nat) (i:Nat):Nat:=i+rn (λ c=>c != 61) L i
def plE (L:List Nat) (i:Nat):Nat:=i+rn plB L i
def keyT (L:List Nat) (i t:Nat):List Nat:=cutS L i (min t (eqE L i))
def isQ (L:List Nat) (i:Nat):Prop:=L[plE L i]? = some 34/\eqE L i+1=plE L i
instance (L:List Nat) (i:Nat):Decidable (isQ L i):=by unfold isQ;infer_instance
end Go.Proofs.YtdeeimaahdgeaaaGreatDoor.spec
namespace Go.Proofs.YtdeeimaahdgeaaaGreatDoor.spec
open Go Go.Sy
variable [MX]
theorem zL4 (x a b:Int):zBK x a b=some (.bool (decide (a<=x)&&decide (x<=b))):=by
 refine zi ?_
 rw [zJq];refine Wp.ite (λ h=>Wp.mk ?_) λ h=>Wp.mk ?_
 ·rw [QL (show a<=x from h)];rfl
 ·rw [QN (show ¬a<=x from h)];rfl
theorem zMw {l:List AV} {n i:Nat} {x:Int} (g:l[i]? = some (.int .i64 x)) (h:i<4):zAd (n+1) l (Int.ofNat i)=if 0<=x/\x<=1099511627776 then zAd n l (Int.ofNat (i+1)) else some (.int .i64 2):=by
 rw [zDY,zKl,g,zf (by omega),QL (show Int.ofNat i<4 by rw [qr];omega)]
 show br (decide (x<0)) _ (br (decide (x > 1099511627776)) _ _)=_
 by_cases f:x<0
 ·rw [QL f,if_neg (by omega)];rfl
 ·rw [QN f];by_cases e:x > 1099511627776
  ·rw [QL e,if_neg (by omega)];rfl
  ·rw [QN e,if_pos (by omega)];rfl
theorem zTt (a b c d:Int):zC1 a b c d=some (.bool (decide (okA a b c d)&&!(a==0&&(b==0&&(c==0&&d==0))))):=by
 have q:∀{l:List AV},l=[.int .i64 a,.int .i64 b,.int .i64 c,.int .i64 d]->zAd FUEL l (Int.ofNat 0)=some (.int .i64 (if okA a b c d then 0 else 2)):=λ{l} j=>by
  rw [show FUEL=1180591620717411303419+1+1+1+1+1 from zDM,zMw (x:=a) (by rw [j];rfl) (by omega),zMw (x:=b) (by rw [j];rfl) (by omega),zMw (x:=c) (by rw [j];rfl) (by omega),zMw (x:=d) (by rw [j];rfl) (by omega),zDY,QN (show ¬Int.ofNat (3+1)<4 by decide)]
  by_cases h:okA a b c d
  ·obtain ⟨f,e,g,p⟩:=h;rw [if_pos f,if_pos e,if_pos g,if_pos p,if_pos ⟨f,e,g,p⟩];rfl
  ·rw [if_neg h];by_cases f:0<=a/\a<=1099511627776
   ·rw [if_pos f];by_cases e:0<=b/\b<=1099511627776
    ·rw [if_pos e];by_cases g:0<=c/\c<=1099511627776
     ·rw [if_pos g,if_neg λ p=>h ⟨f,e,g,p⟩]
     ·rw [if_neg g]
    ·rw [if_neg e]
   ·rw [if_neg f]
 have v:zDB a b c d=some (.int .i64 (if okA a b c d then 0 else 2)):=by
  rw [zH4,zIe];exact q rfl
 rw [zHg,v];by_cases h:okA a b c d
 ·rw [if_pos h,QL h];rfl
 ·rw [if_neg h,QN h];rfl
theorem zVM (bd:Int):∃s,zM bd=some (.str s)/\seqb s []=!(decide (0<=bd)&&decide (bd<=3)):=by
 by_cases f:bd<0
 ·exact ⟨[],by rw [zAf,QL f];rfl,by rw [QN (show ¬0<=bd by omega)];rfl⟩
 by_cases g:bd > 3
 ·exact ⟨[],by rw [zAf,QN f,QL g];rfl,by rw [QN (show ¬bd<=3 by omega),Bool.and_false];rfl⟩
 have e:zM bd=dK true [K.s] (ixN [AV.str [102,114,101,101],AV.str [98,97,116,99,104],AV.str [112,114,111,100],AV.str [109,111,110,105,116,111,114,105,110,103]] bd) λ s=>some (.str s):=by
  rw [zAf,QN f,QN g,zCI];rfl
 rw [QL (show 0<=bd by omega),QL (show bd<=3 by omega),e]
 obtain rfl | rfl | rfl | rfl:bd=0\/bd=1\/bd=2\/bd=3:=by omega
 ·exact ⟨_,rfl,rfl⟩
 ·exact ⟨_,rfl,rfl⟩
 ·exact ⟨_,rfl,rfl⟩
 ·exact ⟨_,rfl,rfl⟩
theorem br_b {β:Type} {b:Bool} {x y:Option β}:br b x y=if b=true then x else y:=by cases b <;> rfl
theorem zWA (f:List AV) (h:vo f) (j:f.length<=2000000):∃b:Bool,zCF f=some (.bool b)/\zAl f [nd6 (Int.ofNat 1) [] [] (Int.ofNat 0) (Int.negSucc 0) (Int.negSucc 0)]=some (.bool b):=by
 have p:vo [nd6 (Int.ofNat 1) [] [] (Int.ofNat 0) (Int.negSucc 0) (Int.negSucc 0)]:=λ e g=>by rw [Qc] at g;exact ⟨_,_,_,_,_,_,g⟩
 refine ⟨_,?_,zK2 _ _ h p j⟩
 rw [zJY,zIk];show dK false [K.b] (zK f [nd6 (Int.ofNat 1) [] [] (Int.ofNat 0) (Int.negSucc 0) (Int.negSucc 0)]) _=_
 rw [zK1 _ _ h p j];rfl
theorem zW2:zD5=some (.agg [.qp 6 [nd6 (Int.ofNat 1) [] [] (Int.ofNat 0) (Int.negSucc 0) (Int.negSucc 0)]]):=by rw [zIJ]
theorem zWB {β:Type} {wk:Bool} {es:List AV} {f:List AV->Option β}:dK wk [K.agg 1,K.l 6] (some (.agg [.qp 6 es])) f=f es:=rfl
theorem zSi (k:Int) (nm us:List Nat) (bd g j:Int) (f:List Nat) (x1 x2 x3 x4:Int) (v:List AV) (q c0:Int) (W:nm.length<=2000000) (S:us.length<=2000000) (M:f.length<=2000000) (hN:vo v) (hl:v.length<=2000000) (hc:zBG v=some (.int .i64 c0)) (V:zG v=some (.int .i64 c0)):
  ∃n,zDv k nm us bd g j f x1 x2 x3 x4 v q=some (.int .i64 n)/\zAC k nm us bd g j f x1 x2 x3 x4 v q=some (.int .i64 n)/\(n=0\/n=2):=by
 have a1:=zHz nm W;have a2:=zHz us S;have a3:=zHz f M;have b1:=zJT nm W;have X:=zJT us S;have K:=zJT f M;have eA:=zKm x1 x2 x3 x4;have gA:=zTt x1 x2 x3 x4;obtain ⟨bs,C,z⟩:=zVM bd;obtain ⟨an,w,I⟩:=zWA v hN hl;generalize zAp 16 nm=A at *;generalize zAp 16 us=J at *;generalize zAp 16 f=N3 at *;have neg:∀b:Bool,(match true with | true=>!b | false=>b:Bool)=!b:=λ _=>rfl
 have L:zDv k nm us bd g j f x1 x2 x3 x4 v q=zCQ (A&&(decide (okA x1 x2 x3 x4)&&!(x1==0&&(x2==0&&(x3==0&&x4==0))))) k nm us bd g j f x1 x2 x3 x4 v q:=by
  rw [zJZ,a1,eA];cases A
  ·rfl
  ·by_cases h:okA x1 x2 x3 x4
   ·rw [if_pos h,QL h];rfl
   ·rw [if_neg h,QN h];rfl
 have R:zAC k nm us bd g j f x1 x2 x3 x4 v q=br (A&&(decide (okA x1 x2 x3 x4)&&!(x1==0&&(x2==0&&(x3==0&&x4==0))))) (zAM (decide (1<=g)&&decide (g<=64)) k nm us bd g j f x1 x2 x3 x4 v q) (some (.int .i64 2)):=by
  have j0:zCG k nm us bd g j f x1 x2 x3 x4 v q=zAM (decide (1<=g)&&decide (g<=64)) k nm us bd g j f x1 x2 x3 x4 v q:=by
   rw [zHa];by_cases h:1<=g
   ·rw [QL h];rfl
   ·rw [QN h];rfl
  rw [zH5,b1,gA,←j0];cases A
  ·rfl
  ·cases (decide (okA x1 x2 x3 x4)&&!(x1==0&&(x2==0&&(x3==0&&x4==0)))) <;> rfl
 rw [L,R];generalize (A&&(decide (okA x1 x2 x3 x4)&&!(x1==0&&(x2==0&&(x3==0&&x4==0)))))=f0;have D:∀b,zk b=some (.int .i64 (if b=true then 0 else 2)):=λ b=>by rw [zFm];cases b <;> rfl
 have E:∀b,zd b=some (.int .i64 (if b=true then 0 else 2)):=λ b=>by rw [zG7];cases b <;> rfl
 have B:(decide (Int.ofNat 1<=g)&&decide (g<=Int.ofNat 64))=(decide (1<=g)&&decide (g<=64)):=rfl;have y:(decide (Int.ofNat 0<=bd)&&decide (bd<=Int.ofNat 3))=(decide (0<=bd)&&decide (bd<=3)):=rfl;rw [zH6,zG9];have key:∀o p:Option AV,o=p->(∃n,p=some (.int .i64 n)/\(n=0\/n=2))->∃n,o=some (.int .i64 n)/\p=some (.int .i64 n)/\(n=0\/n=2):=λ o p h ⟨n,e,hn⟩=>⟨n,h.trans e,e,hn⟩
 have Q:∀b,zo b k nm us bd g j f x1 x2 x3 x4 v q=some (.int .i64 (if (b&&(seqb f []||an))=true then 0 else 2)):=λ b=>by
  rw [zG8,zW2];simp only [zWB,I,ek_b,E,br_b];cases seqb f [] <;> cases an <;> cases b <;> rfl
 by_cases U:k=1
 ·subst U;simp only [zFn,a2,a3,X,K,zL4,ek_b,ek_i,ek_s,hc,V,C,z,w,D,Q,br_b,B,y];generalize (decide (0<=bd)&&decide (bd<=3))=g1;generalize (decide (1<=g)&&decide (g<=64))=g2;have H:(decide (Int.ofNat 1<=j)&&decide (j<=g))=(decide (j>=1)&&decide (j<=g)):=rfl;rw [H];generalize decide (j>=1)=g3;generalize decide (j<=g)=g4;generalize (q==0)=g5;generalize (c0==0)=g6;generalize seqb f []=g7;cases f0 <;> cases J <;> cases g1 <;> cases g2 <;> cases g3 <;> cases g4 <;> cases g5 <;> first | exact ⟨_,rfl,rfl,.inr rfl⟩ | (cases g6 <;> cases g7 <;> cases N3 <;> cases an <;> first | exact ⟨_,rfl,rfl,.inr rfl⟩ | exact ⟨_,rfl,rfl,.inl rfl⟩)
 by_cases O:k=2
 ·subst O;simp only [zFn,a2,a3,X,K,zL4,ek_b,ek_i,ek_s,hc,V,C,z,w,D,E,Q,br_b,B,y];generalize (decide (0<=bd)&&decide (bd<=3))=g1;generalize (decide (1<=g)&&decide (g<=64))=g2;generalize (j==0)=g3;generalize (q==0)=g5;generalize (c0==0)=g6;generalize seqb f []=g7;cases f0 <;> cases J <;> cases g1 <;> cases g2 <;> cases g3 <;> cases g5 <;> cases g6 <;> cases g7 <;> first | exact ⟨_,rfl,rfl,.inr rfl⟩ | exact ⟨_,rfl,rfl,.inl rfl⟩
 by_cases T:k=3
 ·subst T;simp only [zL4,ek_b,D,E,br_b];have F:(decide (Int.ofNat 1<=q)&&decide (q<=Int.ofNat 64))=(decide (q>=1)&&decide (q<=64)):=rfl;rw [F];generalize decide (q>=1)=g1;generalize decide (q<=64)=g2;generalize (bd==0)=g3;generalize (g==0)=g4;generalize (j==0)=g5;generalize seqb us []=g6;generalize seqb f []=g7;generalize (Int.ofNat v.length==0)=g8;cases f0 <;> cases g6 <;> cases g3 <;> cases g4 <;> cases g5 <;> cases g7 <;> cases g8 <;> cases g1 <;> cases g2 <;> first | exact ⟨_,rfl,rfl,.inr rfl⟩ | exact ⟨_,rfl,rfl,.inl rfl⟩
 have Y:(k==1)=false:=beq_eq_false_iff_ne.2 U;have e2:(k==2)=false:=beq_eq_false_iff_ne.2 O;have e3:(k==3)=false:=beq_eq_false_iff_ne.2 T;rw [Y,e2,e3];simp only [D,E,br_b];cases f0 <;> exact ⟨_,rfl,rfl,.inr rfl⟩
theorem TL.at {es:List AV} {L:Nat->Nat} {m j:Nat} (h:TL es L m) (e:j<m):∃k s t n l r,ixN es (Int.ofNat j)=some (nd6 k s t n l r)/\(-9223372036854775808<=n/\n<=9223372036854775807)/\s.length+t.length+24<=L j/\L j<=topL ∧
 (k=7->∃a:Nat,l=Int.ofNat a/\a<j/\L a+3<=L j)/\(k=8\/k=9->∃a b:Nat,l=Int.ofNat a/\r=Int.ofNat b/\a<j/\b<j/\L a+L b+7<=L j):=h j e
abbrev isT (m:Nat) (v:AV):Prop:=∃t,v=.str t/\(t.length<=m/\okS t)
abbrev NC (es:List AV):Prop:=∀(j:Nat) k s t n l r,es[j]? = some (nd6 k s t n l r)->okS s/\okS t
theorem zAY {l:List Nat} (h:l.all (λ c=>decide (okQ' c))=true):okS l:=λ c hc=>QO (QG.1 h c hc)
theorem zWC {d:Nat} {es:List AV} {L:Nat->Nat} {m a:Nat} (h:TL es L m) (y:a<m) (j:Wp (zB6 d es (Int.ofNat a)) (isT (L a))) (f:Int):Wp (zBJ (d+1) (Int.ofNat a) f es) (isT (L a+2)):=by
 rw [zJp];obtain ⟨k,s,t,n,l,r,w,_,_,p,_⟩:=h.at y;refine wk_s j λ u g=>zB5 w ?_
 have:∃x,zFj k=some (.int .i64 x):=by
  have:Wp (zFj k) isE:=by
   rw [zJW]
   repeat' first | refine Wp.if (λ _=>?_) (λ _=>?_) | exact Wp.mk ⟨_,rfl,trivial⟩
  obtain ⟨v,e,x,rfl,_⟩:=this;exact ⟨x,e⟩
 obtain ⟨x,q⟩:=this;refine qk_i q (Wp.ite (λ _=>Wp.gd ?_ (Wp.gd ?_ (Wp.mk ⟨_,rfl,?_,zZ (zZ (zAY rfl) g.2) (zAY rfl)⟩))) λ _=>Wp.mk ⟨_,rfl,by omega,g.2⟩)
 all_goals simp only [QC,QK,QS]
 all_goals unfold topL at p
 all_goals first | omega | (unfold zc;omega)
theorem zVN {es:List AV} {L:Nat->Nat} {m:Nat} (h:TL es L m) (R:NC es):∀(d j:Nat),2*j+1<=d->j<m->Wp (zB6 d es (Int.ofNat j)) (isT (L j)):=by
 intro d
 induction d using Nat.strongRecOn with
 | _ d Q=>
  intro j S O;obtain ⟨k,s,t,n,l,r,H,F,T,J,K,v⟩:=h.at O;obtain ⟨d,rfl⟩:∃B,d=B+1:=⟨d-1,by omega⟩
  have part:∀a:Nat,a<j->∀e:Int,Wp (zBJ d (Int.ofNat a) e es) (isT (L a+2)):=λ a g e=>by
   obtain ⟨d2,rfl⟩:∃B,d=B+1:=⟨d-1,by omega⟩
   exact zWC h (by omega) (Q d2 (by omega) a (by omega) (by omega)) e
  obtain ⟨q,I⟩:=R j k s t n l r H;unfold topL at J;have m0:zc=9223372036854775807:=rfl;rw [zFK];refine zB5 H ?_
  refine Wp.if (λ _=>Wp.mk ⟨_,rfl,by show 3<=_;omega,zAY rfl⟩) λ _=>?_
  refine Wp.if (λ _=>Wp.gd ?_ (Wp.gd ?_ (Wp.mk ⟨_,rfl,?_,zZ (zZ q (zAY rfl)) I⟩))) λ _=>?_
  any_goals (simp only [QC,QK,QS];omega)
  refine Wp.if (λ _=>Wp.gd ?_ (Wp.gd ?_ (Wp.mk ⟨_,rfl,?_,zZ (zZ q (zAY rfl)) I⟩))) λ _=>?_
  any_goals (simp only [QC,QK,QS];omega)
  obtain ⟨f,D,M,E⟩:=zR9 n F.1 F.2;refine Wp.if (λ _=>Wp.gd ?_ (qk_s D (Wp.gd ?_ (Wp.mk ⟨_,rfl,?_,zZ (zZ q (zAY rfl)) E⟩)))) λ _=>?_
  any_goals (simp only [QC,QK,QS];omega)
  refine Wp.if (λ _=>Wp.gd ?_ (qk_s D (Wp.gd ?_ (Wp.mk ⟨_,rfl,?_,zZ (zZ q (zAY rfl)) E⟩)))) λ _=>?_
  any_goals (simp only [QC,QK,QS];omega)
  refine Wp.if (λ p=>?_) λ _=>?_
  ·obtain ⟨a,rfl,g,C⟩:=K (by simpa using p)
   refine wk_s (part a g _) λ u y=>Wp.gd ?_ (Wp.mk ⟨_,rfl,?_,zZ (zAY rfl) y.2⟩)
   all_goals simp only [QC,QK,QS]
   all_goals omega
  refine Wp.if (λ p=>?_) λ _=>?_
  ·obtain ⟨a,b,rfl,rfl,g,z,C⟩:=v (.inl (by simpa using p))
   refine wk_s (part a g _) λ u y=>Wp.gd ?_ (wk_s (part b z _) λ w A=>Wp.gd ?_ (Wp.mk ⟨_,rfl,?_,zZ (zZ y.2 (zAY rfl)) A.2⟩))
   all_goals simp only [QC,QK,QS]
   all_goals omega
  refine Wp.if (λ p=>?_) λ _=>Wp.mk ⟨_,rfl,by omega,q⟩
  ·obtain ⟨a,b,rfl,rfl,g,z,C⟩:=v (.inr (by simpa using p))
   refine wk_s (part a g _) λ u y=>Wp.gd ?_ (wk_s (part b z _) λ w A=>Wp.gd ?_ (Wp.mk ⟨_,rfl,?_,zZ (zZ y.2 (zAY rfl)) A.2⟩))
   all_goals simp only [QC,QK,QS]
   all_goals omega
theorem zTu {l:List AV} {L:Nat->Nat} (h:TL l L l.length) (g:NC l) (f:0<l.length) (j:l.length<=64):Wp (zB6 FUEL l (wrapx .i64 (Int.ofNat l.length-1))) λ v=>∃t,v=.str t/\okS t:=by
 rw [zA5 f (by omega)]
 exact (zVN h g FUEL (l.length-1) (Qh (zx (by omega))) (by omega)).mono λ v ⟨t,e,h⟩=>⟨t,e,h.2⟩
def zKt (us:List AV) (c:Nat->Int) (m:Nat):Prop:=us.length=m/\∀j,j<m->us[j]? = some (.int .i64 (c j))
theorem zMx {us:List AV} {j:Nat} {x:Int} (h:us[j]? = some (.int .i64 x)):ldE us (Int.toNat (Int.ofNat j)) 0 1 false=some (.int .i64 x):=by
 show (match us[j]? with | some e=>Go.Sy.part e.cells 0 1 false | none=>none)=_
 rw [h];rfl
theorem zKt.set {us:List AV} {c:Nat->Int} {m a:Nat} (h:zKt us c m) (p:a<m) (x:Int):zKt (us.set a (.int .i64 x)) (upd c a x) m:=by
 refine ⟨by rw [List.length_set];exact h.1,λ j f=>?_⟩
 by_cases e:j=a
 ·subst e;rw [zEJ,List.getElem?_set_self (by rw [h.1];exact f)]
 ·rw [zCa e,List.getElem?_set_ne (λ g=>e g.symm)]
  exact h.2 j f
def bigK:Nat:=4000100
def Bad (c:Nat->Int) (m:Nat):Prop:=∃j,j<m/\2<=c j
structure Sh (es:List AV) (L:Nat->Nat) (c:Nat->Int) (i T:Nat):Prop where
 tl:TL es L i
 le:∀j,j<i->L j<=bigK*i
 sum:rs L c i+T<=bigK*i
 wa:∀j,j<i->c j=0\/c j=1
 new:∀j,i<=j->c j=0
def Ok (es:List AV) (c:Nat->Int) (m i T:Nat) (e:List Nat):Prop:=Bad c m\/∃L,Sh es L c i T/\(e.map L).foldr (·+·) 0<=T
theorem Sh.take {es:List AV} {L:Nat->Nat} {c:Nat->Int} {i T a:Nat} (h:Sh es L c i T) (g:a<i) (p:c a=0):Sh es L (upd c a (c a+1)) i (T+L a):=by
 refine ⟨h.tl,h.le,?_,λ j f=>?_,λ j f=>?_⟩
 ·have:=zRm (L:=L) p (show c a+1≠0 by omega) g
  have:=h.sum;omega
 ·by_cases e:j=a
  ·subst e;rw [zEJ];omega
  ·rw [zCa e];exact h.wa j f
 ·rw [zCa (by omega)];exact h.new j f
theorem Ok.take {es:List AV} {c:Nat->Int} {m i T a:Nat} {f:List Nat} (h:Ok es c m i T f) (g:a<i) (v:i<=m) (hc:∀j,0<=c j):∃y,Ok es (upd c a (c a+1)) m i y (a::f):=by
 rcases h with ⟨j,w,p⟩ | ⟨L,h,z⟩
 ·refine ⟨0,.inl ⟨j,w,?_⟩⟩
  by_cases e:j=a
  ·subst e;rw [zEJ];omega
  ·rw [zCa e];exact p
 ·rcases h.wa a g with q | A
  ·refine ⟨T+L a,.inr ⟨L,h.take g q,?_⟩⟩
   show L a+(f.map L).foldr (·+·) 0<=_
   omega
  ·exact ⟨0,.inl ⟨a,by omega,by rw [zEJ];omega⟩⟩
theorem Ok.next {es:List AV} {c:Nat->Int} {m i T:Nat} {v:List Nat} (h:Ok es c m i T v) (E:i<m) (V:i<64) {k:Int} {s t:List Nat} {n l r:Int} (R:es[i]? = some (nd6 k s t n l r)) (O:-9223372036854775808<=n/\n<=9223372036854775807) (hs:s.length+t.length+24<=bigK)
  (H:k=7->∃a:Nat,l=Int.ofNat a/\a<i/\v=[a]) (z:k=8\/k=9->∃a b:Nat,l=Int.ofNat a/\r=Int.ofNat b/\a<i/\b<i/\v=[b,a]):Ok es c m (i+1) 0 []:=by
 rcases h with g | ⟨L,h,p⟩
 ·exact .inl g
 ·refine .inr ⟨upd L i (T+bigK),⟨λ j q=>?_,λ j q=>?_,?_,λ j q=>?_,λ j q=>h.new j (by omega)⟩,QB _⟩
  ·by_cases e:j=i
   ·subst e;have U:T<=bigK*j:=by have:=h.sum;omega
    refine ⟨k,s,t,n,l,r,R,O,by rw [zEJ];omega,by rw [zEJ];unfold bigK topL at *;omega,λ e=>?_,λ e=>?_⟩
    ·obtain ⟨a,rfl,f,rfl⟩:=H e;have p:L a+0<=T:=p;exact ⟨a,rfl,f,by rw [zEJ,zCa (by omega)];unfold bigK;omega⟩
    ·obtain ⟨a,b,rfl,rfl,f,g,rfl⟩:=z e;have p:L b+(L a+0)<=T:=p;exact ⟨a,b,rfl,rfl,f,g,by rw [zEJ,zCa (by omega),zCa (by omega)];unfold bigK;omega⟩
   ·obtain ⟨J,A,D,B,Q,C,q1,S,I,M,K,F⟩:=h.tl j (by omega)
    refine ⟨J,A,D,B,Q,C,q1,S,by rw [zCa e];exact I,by rw [zCa e];exact M,λ w=>?_,λ w=>?_⟩
    ·obtain ⟨a,rfl,f,y⟩:=K w;exact ⟨a,rfl,f,by rw [zCa e,zCa (by omega)];exact y⟩
    ·obtain ⟨a,b,rfl,rfl,f,g,y⟩:=F w;exact ⟨a,b,rfl,rfl,f,g,by rw [zCa e,zCa (by omega),zCa (by omega)];exact y⟩
  ·by_cases e:j=i
   ·subst e;rw [zEJ];have:=h.sum;rw [Nat.mul_add];omega
   ·rw [zCa e];have:=h.le j (by omega);rw [Nat.mul_add];omega
  ·rw [rs,zNd (L':=L) (c':=c) (λ j q=>zCa (by omega)) λ _ _=>rfl,zEJ,if_pos (h.new i (QB _)),Nat.mul_add]
   have:=h.sum;omega
  ·by_cases e:j=i
   ·subst e;exact .inl (h.new j (QB _))
   ·exact h.wa j (by omega)
abbrev isSh (es:List AV) (v:AV):Prop:=∃b,v=.bool b/\(b=true->0<es.length/\es.length<=64/\∃L,TL es L es.length)
theorem zEz {es:List AV}:isSh es (.bool false):=⟨false,rfl,λ h=>by cases h⟩
theorem zSj (es us:List AV) (c:Nat->Int) (p:zKt us c es.length) (A:0<es.length) (y:es.length<=64) (v:Ok es c es.length es.length 0 []):∀(n i:Nat),i<=es.length->es.length-i<n->(∀j,j<i->j<es.length-1->c j=1)->Wp (zCi n es (Int.ofNat us.length) (Int.ofNat i) us) (isSh es):=by
 intro n
 induction n with
 | zero=>intro i _ h;omega
 | succ n C=>
  intro i J K w;have E:=p.1;rw [zG3,p.1];have f:wrapx .i64 (Int.ofNat es.length-1)=Int.ofNat (es.length-1):=zA5 A (by omega)
  refine Wp.lt (λ g=>?_) λ D=>?_
  ·refine zGY g (qk_i (zMx (p.2 i g)) ?_)
   rw [f,zf (by omega),←p.1]
   refine Wp.lt (λ I=>Wp.if (λ _=>Wp.mk zEz) λ H=>C (i+1) g (by omega) λ j z q=>?_) λ I=>C (i+1) g (by omega) λ j z q=>?_
   ·by_cases e:j=i
    ·subst e;simpa using H
    ·exact w j (by omega) q
   ·exact w j (by omega) q
  ·rw [f];refine zGY (by omega) (qk_i (zMx (p.2 _ (by omega))) (Wp.mk ⟨_,rfl,λ B=>⟨A,y,?_⟩⟩))
   have B:c (es.length-1)=0:=by simpa using B
   rcases v with ⟨j,F,z⟩ | ⟨L,h,_⟩
   ·by_cases e:j<es.length-1
    ·have:=w j (by omega) e;omega
    ·have:j=es.length-1:=by omega
     subst this;omega
   ·exact ⟨L,h.tl⟩
theorem zJ6 {es us parts:List AV} {n27 n i x:Nat} {c:Nat->Int} {k:Int} {P:AV->Prop} (p:zKt us c es.length) (hc:∀j,0<=c j/\c j<=1000) (hx:parts[x]? = some (.int .i64 k)) (v:x<5) (B:i<=es.length) (t23 t24:Int) (t22:List AV) (g:P (.bool false))
  (h:∀a:Nat,k=Int.ofNat a->a<i->Wp (zAz n27 n es (Int.ofNat i) t22 t23 t24 (Int.ofNat parts.length) (Int.ofNat (x+1)) (us.set a (.int .i64 (c a+1))) parts) P):Wp (zAz n27 (n+1) es (Int.ofNat i) t22 t23 t24 (Int.ofNat parts.length) (Int.ofNat x) us parts) P:=by
 have e:x<parts.length:=(QD.1 hx).1;rw [zDg];refine Wp.lt (λ _=>zGY e (qk_i (zMx hx) (Wp.ite (λ _=>Wp.mk g) λ A=>Wp.ite (λ _=>Wp.mk g) λ y=>?_))) λ q=>absurd e (by omega)
 obtain ⟨a,rfl⟩:=Int.eq_ofNat_of_zero_le (show 0<=k by omega)
 have z:a<i:=by rw [qr] at y;omega
 have f:a<us.length:=by rw [p.1];omega
 have w:=hc a;refine zGY f (qk_i (zMx (p.2 a (by omega))) (zGY f ?_))
 rw [zf (by omega),zT (by omega) (by omega)]
 exact h a rfl z
theorem zK4 {es us parts:List AV} {n27 n i x:Nat} {P:AV->Prop} (hx:x=parts.length) (e:i<1000) (t22:List AV) (t23:Int) (h:Wp (zA0 n27 es t22 t23 (Int.ofNat (i+1)) us) P):Wp (zAz n27 (n+1) es (Int.ofNat i) t22 t23 (Int.ofNat i) (Int.ofNat parts.length) (Int.ofNat x) us parts) P:=by
 rw [zDg];refine Wp.lt (λ h=>absurd h (by omega)) λ _=>?_
 rw [zf (by omega)]
 exact h
theorem zSk:FUEL=1180591620717411303421+1+1+1:=zDM
theorem zQy {c:Nat->Int} {a n:Nat} (hc:∀j,0<=c j/\c j<=(n:Int)) (j:Nat):0<=upd c a (c a+1) j/\upd c a (c a+1) j<=((n+1:Nat):Int):=by
 by_cases e:j=a
 ·subst e;rw [zEJ];have:=hc j;omega
 ·rw [zCa e];have:=hc j;omega
theorem zQW (es:List AV) (h:Nds es):Wp (zGg es) (isSh es):=by
 rw [zJr];refine Wp.ite (λ _=>Wp.mk zEz) λ O=>Wp.ite (λ _=>Wp.mk zEz) λ B=>?_
 rw [qr] at O B;have O:0<es.length:=by omega
 have B:es.length<=64:=by omega
 have loop:∀(n i:Nat) (us:List AV) (c:Nat->Int),i<=es.length->es.length-i<n->zKt us c es.length->(∀j,0<=c j/\c j<=((2*i:Nat):Int))->Ok es c es.length i 0 []->Wp (zA0 n es es (Int.ofNat es.length) (Int.ofNat i) us) (isSh es):=by
  intro n
  induction n with
  | zero=>intro i us c _ h;omega
  | succ n W=>
   intro i us c D hn A hc p;have J:∀j,0<=c j/\c j<=1000:=λ j=>by have:=hc j;omega
   have S:∀j,0<=c j/\c j<=((2*(i+1):Nat):Int):=λ j=>by have:=hc j;omega
   rw [zCd];refine Wp.lt (λ f=>?_) λ aa=>?_
   ·obtain ⟨k,s,t,X,l,r,he,R,V,hs,ht⟩:=h.1 _ (Qn f);have y:es[i]? = some (nd6 k s t X l r):=by rw [QE f,he]
    have v:s.length+t.length+24<=bigK:=by have a1:=hs.1;have a2:=ht.1;unfold bigK;omega
    refine zB5 ((zA4 f).trans (congrArg some he)) ?_
    have w:∀parts,parts=[]->¬k=7->¬(k=8\/k=9)->Wp (zBX n es (Int.ofNat i) es (Int.ofNat es.length) (Int.ofNat i) us parts) (isSh es):=λ parts hp h7 h8=>by
     subst hp;rw [zBF,zSk];exact zK4 rfl (by omega) _ _ (W (i+1) us c f (by omega) A S (p.next f (by omega) y ⟨R,V⟩ v (λ e=>absurd e h7) λ e=>absurd e h8))
    refine Wp.if (λ F=>?_) λ q=>?_
    ·have F:k=7:=by simpa using F
     refine Wp.if (λ _=>Wp.mk zEz) λ _=>?_
     rw [zBF,zSk];refine zJ6 (parts:=[.int .i64 l]) (x:=0) A J rfl (by omega) D _ _ _ zEz λ a U g=>?_
     obtain ⟨T,z⟩:=p.take g D λ j=>(hc j).1
     refine zK4 rfl (by omega) _ _ (W (i+1) _ (upd c a (c a+1)) f (by omega) (A.set (by omega) _) (λ j=>?_) (z.next f (by omega) y ⟨R,V⟩ v (λ _=>⟨a,U,g,rfl⟩) λ e=>by omega))
     have:=zQy (a:=a) hc j;omega
    ·have q:¬k=7:=by simpa using q
     have two:k=8\/k=9->Wp (zBX n es (Int.ofNat i) es (Int.ofNat es.length) (Int.ofNat i) us [.int .i64 l,.int .i64 r]) (isSh es):=λ F=>by
      rw [zBF,zSk];refine zJ6 (parts:=[.int .i64 l,.int .i64 r]) (x:=0) A J rfl (by omega) D _ _ _ zEz λ a U g=>?_
      obtain ⟨T,z⟩:=p.take g D λ j=>(hc j).1
      have C:=λ j=>zQy (a:=a) hc j
      refine zJ6 (parts:=[.int .i64 l,.int .i64 r]) (x:=1) (A.set (by omega) _) (λ j=>by have:=C j;omega) rfl (by omega) D _ _ _ zEz λ b E H=>?_
      obtain ⟨T2,Q⟩:=z.take H D λ j=>(C j).1
      refine zK4 rfl (by omega) _ _ (W (i+1) _ (upd (upd c a (c a+1)) b (upd c a (c a+1) b+1)) f (by omega) ((A.set (by omega) _).set (by omega) _) (λ j=>?_) (Q.next f (by omega) y ⟨R,V⟩ v (λ e=>by omega) λ _=>⟨a,b,U,E,g,H,rfl⟩))
      have:=zQy (a:=b) C j;omega
     have Y:∀b:Bool,(b=true->k=8\/k=9)->(b=false->¬(k=8\/k=9))->Wp (zDu n es (Int.ofNat i) es (Int.ofNat es.length) (Int.ofNat i) b k s t X l r us []) (isSh es):=λ b b1 b0=>by
      rw [zEZ];exact Wp.if (λ E=>two (b1 E)) λ E=>Wp.if (λ _=>Wp.mk zEz) λ _=>Wp.if (λ _=>Wp.mk zEz) λ _=>w [] rfl q (b0 E)
     refine Wp.if (λ F=>Y true (λ _=>.inl (by simpa using F)) λ e=>by cases e) λ I=>Y _ (λ e=>.inr (by simpa using e)) λ e=>?_
     have I:¬k=8:=by simpa using I
     have ab:¬k=9:=by simpa using e
     omega
   ·have:i=es.length:=by omega
    subst this;exact zSj es us c A O B p _ 0 (QR _) (zx (by omega)) λ j K=>by omega
 rw [zHo];have M:Int.toNat (Int.ofNat es.length)=es.length:=rfl;refine Wp.gd ⟨Qa _,Int.le_refl _,?_,?_⟩ (loop _ 0 _ (λ _=>0) (QR _) (zx (by omega)) ⟨?_,λ j K=>?_⟩ (λ j=>by omega) (.inr ⟨λ _=>0,⟨λ j K=>by omega,λ j K=>by omega,QB _,λ j K=>by omega,λ _ _=>rfl⟩,QB _⟩))
 ·rw [M];unfold zg;omega
 ·rw [M];unfold zg;omega
 ·rw [M,List.length_replicate]
 ·rw [M];exact QD.2 ⟨by rw [List.length_replicate];exact K,by rw [List.getElem_replicate]⟩
theorem Nds.vo {es:List AV} (h:Nds es):vo es:=λ e f=>by
 obtain ⟨k,s,t,n,l,r,e,_⟩:=h.1 e f;exact ⟨k,s,t,n,l,r,e⟩
def IsFl (es:List AV):Prop:=∃t:RT,es=t.fl 0/\t.wf/\t.size<=64
theorem zNi {es:List AV} (h:Nds es):∃c,zBG es=some (.int .i64 c)/\(c=0/\IsFl es\/c=2):=by
 have:Wp (zBG es) λ v=>∃c,v=.int .i64 c/\(c=0/\IsFl es\/c=2):=by
  rw [zJX];obtain ⟨v,e,b,rfl,w⟩:=zQW es h;refine qk_b e (Wp.if (λ _=>Wp.mk ⟨_,rfl,.inr rfl⟩) λ g=>?_)
  obtain ⟨y,q,L,A⟩:=w (by simpa using g)
  have D:NC es:=λ j k s t n l r e=>by
   obtain ⟨J,E,I,F,O,H,p,_,_,hs,g⟩:=h.1 _ (QF e);cases p;exact ⟨hs.2,g.2⟩
  obtain ⟨_,B,t,rfl,g⟩:=zTu A D y q;refine qk_s B ?_
  rw [zLf _ g];cases hp:zDq t with
  | error e=>
   obtain ⟨e,f⟩:=e;have p:=zII g hp;show Wp (br (!(e==0&&f==0)) _ _) _
   rw [p];exact Wp.mk ⟨_,rfl,.inr rfl⟩
  | ok u=>
   obtain ⟨C,z,M⟩:=zHZ hp;show Wp (dK true [K.b] (zK (u.fl 0) es) _) _
   refine qk_b (zK1 _ _ (zFi u 0) h.vo (by rw [RT.fl_length];omega)) (Wp.if (λ h=>Wp.mk ⟨_,rfl,.inr rfl⟩) λ h=>Wp.mk ⟨_,rfl,.inl ⟨rfl,u,?_,C,z⟩⟩)
   exact (QO (by simpa using h):u.fl 0=es).symm
 obtain ⟨_,e,c,rfl,h⟩:=this;exact ⟨c,e,h⟩
def LG (a b:List Nat) (n:Int) (v:AV):Prop:=∃x,v=.bool x/\(x=true->a.length<=24/\b.length<=32/\0<=n/\n<=999999999999)
theorem zTv {a b:List Nat} (I:a.length<=2000000) (E:b.length<=2000000) (k n l r:Int):Wp (zAB k a b n l r) (LG a b n):=by
 have j:LG a b n (.bool false):=⟨_,rfl,λ h=>by cases h⟩
 have nil:seqb a []=true->seqb b []=true->∀x:Bool,x=(n==0)->LG a b n (.bool x):=λ q p x H=>⟨_,rfl,λ h=>by
  have q:=zEc q;have p:=zEc p;subst q;subst p;rw [H] at h;have:n=0:=by simpa using h
  subst this
  decide⟩
 have A:∀t,Wp (zAJ t k a b n l r) (LG a b n):=λ t=>by
  rw [zDZ];exact Wp.if (λ _=>Wp.if (λ q=>Wp.if (λ p=>Wp.mk (nil q p _ rfl)) λ _=>Wp.mk j) λ _=>Wp.mk j) λ _=>Wp.mk j
 have y:∀(f none:Bool) (z:Int) (t:Bool),(f=true->a.length<=24)->Wp (zAe f none z t k a b n l r) (LG a b n):=λ f none z t g=>by
  rw [zA8];refine Wp.if (λ _=>Wp.if (λ _=>Wp.if (λ h=>Wp.if (λ p=>Wp.ite (λ D=>Wp.mk ⟨_,rfl,λ v=>⟨g h,?_,D,QO v⟩⟩) λ _=>Wp.mk j) λ _=>Wp.mk j) λ _=>Wp.mk j) λ _=>Wp.mk j) λ _=>?_
  ·rw [zEc p];decide
  refine Wp.if (λ _=>Wp.if (λ _=>Wp.if (λ h=>Wp.if (λ p=>Wp.mk ⟨_,rfl,λ v=>⟨g h,?_,?_⟩⟩) λ _=>Wp.mk j) λ _=>Wp.mk j) λ _=>Wp.mk j) λ _=>?_
  ·rw [zEc p];decide
  ·have:n=0:=by simpa using v
   subst this;decide
  refine Wp.if (λ _=>Wp.if (λ q=>Wp.if (λ p=>Wp.if (λ F=>?_) λ _=>Wp.mk j) λ _=>Wp.mk j) λ _=>Wp.mk j) λ _=>Wp.if (λ _=>A _) λ _=>A _
  refine Wp.mk ⟨_,rfl,λ _=>?_⟩
  obtain ⟨_,e,h⟩:=nil q p true F.symm;cases e;exact h rfl
 have B:∀(f none:Bool) (z:Int) (t:Bool),(f=true->a.length<=24)->Wp (zU f none z t k a b n l r) (LG a b n):=λ f none z t g=>by
  rw [zAr];refine Wp.if (λ _=>Wp.if (λ _=>Wp.if (λ h=>qk_b (zQw b E) (Wp.if (λ p=>Wp.mk ⟨_,rfl,λ v=>⟨g h,?_,?_⟩⟩) λ _=>Wp.mk j)) λ _=>Wp.mk j) λ _=>Wp.mk j) λ _=>Wp.if (λ _=>y _ _ _ _ g) λ _=>y _ _ _ _ g
  ·unfold zPw at p;rw [QA] at p;exact (QO p.2).2
  ·have:n=0:=by simpa using v
   subst this;decide
 have C:∀(f:Bool),(f=true->a.length<=24)->Wp (zAL f k a b n l r) (LG a b n):=λ f g=>by
  have w:∀none,Wp (zAK f none k a b n l r) (LG a b n):=λ none=>by
   rw [zA9];exact Wp.if (λ _=>Wp.if (λ _=>Wp.if (λ q=>Wp.if (λ p=>Wp.mk (nil q p _ rfl)) λ _=>Wp.mk j) λ _=>Wp.mk j) λ _=>Wp.mk j) λ _=>Wp.if (λ _=>B _ _ _ _ g) λ _=>B _ _ _ _ g
  rw [zCf];exact Wp.if (λ _=>w _) λ _=>w _
 rw [zCL];refine qk_b (zHx a 24 I) (Wp.if (λ h=>C _ λ _=>?_) λ _=>C _ λ h=>by cases h)
 unfold zAp at h;rw [QA] at h;exact QO h.1
def Shp (es:List AV) (m:Nat):Prop:=∀j,j<m->∃k a b n l r,es[j]? = some (nd6 k a b n l r)/\a.length<=24/\b.length<=32/\okS a/\okS b/\0<=n/\n<=999999999999/\-1<=l/\l<j/\-1<=r/\r<j/\(7<=k->0<=l)/\(8<=k->0<=r)
def SzV (es:List AV) (j v:Nat):Prop:=1<=v/\v<=65*(j+1)/\(∀d,j<d->zAO d es (Int.ofNat j)=some (.int .i64 (Int.ofNat v))) ∧
 (v<=64->∀d,j<d->∀m:Int,∃s,zl d es (Int.ofNat j) m=some (.str s)/\s.length<=100*v/\okS s)
theorem zQX {d:Nat} {m k n l r:Int} {s a b:List Nat} (hs:s.length<=7000) (ho:okS s):∃f,zh d m s k a b n l r=some (.str f)/\f.length<=s.length+2/\okS f:=by
 have:Wp (zh d m s k a b n l r) λ v=>∃f,v=.str f/\f.length<=s.length+2/\okS f:=by
  rw [zD7];have tg:∃x,zBj k a b n l r=some (.int .i64 x):=by
   have:Wp (zBj k a b n l r) λ v=>∃x,v=.int .i64 x:=by
    rw [zEt];exact Wp.if (λ _=>Wp.mk ⟨_,rfl⟩) λ _=>Wp.if (λ _=>Wp.mk ⟨_,rfl⟩) λ _=>Wp.mk ⟨_,rfl⟩
   obtain ⟨_,e,x,rfl⟩:=this;exact ⟨x,e⟩
  obtain ⟨x,j⟩:=tg;have g:([40]++s).length=s.length+1:=by simp
  refine qk_i j (Wp.ite (λ _=>Wp.gd ?_ (Wp.gd ?_ (Wp.mk ⟨_,rfl,?_,zZ (zZ (zAY rfl) ho) (zAY rfl)⟩))) λ _=>Wp.mk ⟨_,rfl,by omega,ho⟩)
  ·show 1+s.length<=zc;unfold zc;omega
  ·rw [g];show s.length+1+1<=zc;unfold zc;omega
  ·rw [QC,g];exact QB _
 obtain ⟨_,e,f,rfl,h⟩:=this;exact ⟨f,e,h⟩
theorem zWD {es:List AV} {m:Nat} (h:Shp es m) (hm:m<=64):∀j,j<m->∃v,SzV es j v:=by
 intro j
 induction j using Nat.strongRecOn with
 | ind j ih=>
 intro hj;obtain ⟨k,a,b,n,l,r,e,la,lb,I,U,n0,n1,l1,l2,r1,r2,X,k8⟩:=h j hj;have T:∀x:Int,-1<=x->x<j->∃v:Nat,(x<0/\v=0)\/∃c:Nat,x=Int.ofNat c/\c<j/\SzV es c v:=λ x H B=>by
  by_cases z:x<0
  ·exact ⟨0,.inl ⟨z,rfl⟩⟩
  ·obtain ⟨c,rfl⟩:=Int.eq_ofNat_of_zero_le (show 0<=x by omega)
   obtain ⟨v,w⟩:=ih c (by omega) (by omega)
   exact ⟨v,.inr ⟨c,rfl,by omega,w⟩⟩
 obtain ⟨vl,J⟩:=T l l1 l2;obtain ⟨y,M⟩:=T r r1 r2;have bl:vl<=65*j:=by
  rcases J with ⟨_,h⟩ | ⟨c,_,hc,w⟩
  ·omega
  ·have:=w.2.1;omega
 have aa:y<=65*j:=by
  rcases M with ⟨_,h⟩ | ⟨c,_,hc,w⟩
  ·omega
  ·have:=w.2.1;omega
 refine ⟨1+vl+(if 1+vl<=64 then y else 0),by omega,by split <;> omega,λ d hd=>?_,λ E d hd m=>?_⟩
 ·obtain ⟨d,rfl⟩:∃x,d=x+1:=⟨d-1,by omega⟩
  have j0:∀A:Nat,A=1+vl->Wp (zBO d es (Int.ofNat j) (Int.ofNat A)) λ v=>v=.int .i64 (Int.ofNat (1+vl+(if 1+vl<=64 then y else 0))):=λ A Q=>by
   subst Q;rw [zBd];have Y:∀t:Bool,(t=true->0<=r/\1+vl<=64)->(t=false->r<0\/64<1+vl)->Wp (zBN d es (Int.ofNat j) (Int.ofNat (1+vl)) t) λ v=>v=.int .i64 (Int.ofNat (1+vl+(if 1+vl<=64 then y else 0))):=λ t H B=>by
    rw [zBc];refine Wp.if (λ O=>zBB e ?_) λ O=>?_
    ·obtain ⟨D,F⟩:=H O;rcases M with ⟨h5,_⟩ | ⟨c,rfl,hc,w⟩
     ·omega
     ·refine qk_i (w.2.2.1 d (by omega)) ?_
      rw [zAy,if_pos F];refine Wp.mk ?_
      rw [zT (by rw [qr,qr];omega) (by rw [qr,qr];omega),qr,qr,qr]
      congr 1
    ·rw [zAy];refine Wp.mk ?_
     rcases B O with D | D
     ·rcases M with ⟨_,h⟩ | ⟨c,rfl,_,_⟩
      ·subst h;simp
      ·exact absurd (Qa c) (by rw [qr] at D;omega)
     ·rw [if_neg (by omega)];rfl
   refine zBB e (Wp.ite (λ z=>Y _ (λ h=>⟨z,?_⟩) λ h=>.inr ?_) λ z=>Y _ (λ h=>by cases h) λ _=>.inl (by omega))
   ·have h:=QO h;rw [qr] at h;omega
   ·have h:=Qq h;rw [qr] at h;omega
  refine zi ?_
  rw [zBT];refine zBB e (Wp.ite (λ z=>zBB e ?_) λ z=>?_)
  ·rcases J with ⟨h,_⟩ | ⟨c,rfl,hc,w⟩
   ·omega
   ·refine qk_i (w.2.2.1 d (by omega)) ?_
    have:wrapx .i64 (Int.ofNat 1+Int.ofNat vl)=Int.ofNat (1+vl):=by
     rw [zT (by rw [qr,qr];omega) (by rw [qr,qr];omega),qr,qr,qr];omega
    rw [this];exact j0 _ rfl
  ·rcases J with ⟨_,h⟩ | ⟨c,rfl,_,_⟩
   ·exact j0 1 (by omega)
   ·exact absurd (Qa c) z
 ·have Q:1+vl<=64:=by split at E <;> omega
  rw [if_pos Q] at E ⊢;obtain ⟨d,rfl⟩:∃x,d=x+1:=⟨d-1,by omega⟩
  have tl:∀m:Int,0<=l->∃s,zl d es l m=some (.str s)/\s.length<=100*vl/\okS s:=λ m z=>by
   rcases J with ⟨h,_⟩ | ⟨c,rfl,hc,w⟩
   ·omega
   ·exact w.2.2.2 (by omega) d (by omega) m
  have tr:∀m:Int,0<=r->∃s,zl d es r m=some (.str s)/\s.length<=100*y/\okS s:=λ m z=>by
   rcases M with ⟨h,_⟩ | ⟨c,rfl,hc,w⟩
   ·omega
   ·exact w.2.2.2 (by omega) d (by omega) m
  have key:Wp (zl (d+1) es (Int.ofNat j) m) λ v=>∃s,v=.str s/\s.length<=100*(1+vl+y)/\okS s:=by
   have f:∀s:List Nat,s.length<=100*(1+vl+y)-2->okS s->Wp (zh d m s k a b n l r) λ v=>∃s,v=.str s/\s.length<=100*(1+vl+y)/\okS s:=λ s H B=>by
    obtain ⟨s',S,D,F⟩:=zQX (d:=d) (m:=m) (k:=k) (n:=n) (l:=l) (r:=r) (a:=a) (b:=b) (by omega) B
    exact ⟨_,S,s',rfl,by omega,F⟩
   have nn:∃x:Nat,n=(x:Int):=Int.eq_ofNat_of_zero_le n0;obtain ⟨x,rfl⟩:=nn;have V:=zN3 x (by omega) FUEL (zx (by omega))
   have dl:=zCq x (by omega)
   have W:okS (dec x):=by rw [←zQo];exact zRB _
   rw [zBS];refine zBB e ?_
   refine Wp.if (λ _=>f _ (by show 3<=_;omega) (zAY rfl)) λ _=>?_
   refine Wp.if (λ _=>Wp.gd ?_ (Wp.gd ?_ (f _ ?_ (zZ (zZ I (zAY rfl)) U)))) λ _=>?_
   iterate 3 (simp only [QC,QK,QS];first | omega | (unfold zc;omega))
   refine Wp.if (λ _=>Wp.gd ?_ (Wp.gd ?_ (f _ ?_ (zZ (zZ I (zAY rfl)) U)))) λ _=>?_
   iterate 3 (simp only [QC,QK,QS];first | omega | (unfold zc;omega))
   refine Wp.if (λ _=>Wp.gd ?_ (qk_s V (Wp.gd ?_ (f _ ?_ (zZ (zZ I (zAY rfl)) W))))) λ _=>?_
   iterate 3 (simp only [QC,QK,QS];first | omega | (unfold zc;omega))
   refine Wp.if (λ _=>Wp.gd ?_ (qk_s V (Wp.gd ?_ (f _ ?_ (zZ (zZ I (zAY rfl)) W))))) λ _=>?_
   iterate 3 (simp only [QC,QK,QS];first | omega | (unfold zc;omega))
   refine Wp.if (λ _=>f _ (by omega) I) λ _=>?_
   refine Wp.if (λ C=>?_) λ _=>?_
   ·have C:k=7:=by simpa using C
    obtain ⟨s,hs,H,B⟩:=tl (Int.ofNat 2) (X (by omega))
    refine qk_s hs (Wp.gd ?_ (f _ ?_ (zZ (zAY rfl) B)))
    iterate 2 (simp only [QC,QK,QS];first | omega | (unfold zc;omega))
   have two:8<=k->∀(p q:Int) (g:List Nat),g.length=3->okS g->Wp (dK false [K.s] (zl d es l p) λ R=>gd (decide (List.length R+List.length g<=zc)) (dK false [K.s] (zl d es r q) λ s3=>gd (decide (List.length (R++g)+List.length s3<=zc)) (zh d m (R++g++s3) k a b x l r))) λ v=>∃s,v=.str s/\s.length<=100*(1+vl+y)/\okS s:=λ C p q g g1 g2=>by
    obtain ⟨s,hs,H,B⟩:=tl p (X (by omega))
    obtain ⟨u,hu,D,F⟩:=tr q (k8 (by omega))
    refine qk_s hs (Wp.gd ?_ (qk_s hu (Wp.gd ?_ (f _ ?_ (zZ (zZ B g2) F)))))
    iterate 3 (simp only [QC,g1];first | omega | (unfold zc;omega))
   refine Wp.if (λ C=>two (by have:k=8:=(by simpa using C);omega) _ _ _ rfl (zAY rfl)) λ _=>?_
   refine Wp.if (λ C=>two (by have:k=9:=(by simpa using C);omega) _ _ _ rfl (zAY rfl)) λ _=>?_
   exact f _ (QR _) (zAY rfl)
  obtain ⟨_,S,s,rfl,h⟩:=key;exact ⟨s,S,h⟩
theorem zVO {es:List AV} (h:Nds es):∃c,zG es=some (.int .i64 c)/\(c=0/\IsFl es\/c=2):=by
 have bad:Wp (some (AV.int IntKind.i64 (Int.ofNat 2))) λ v=>∃c,v=.int .i64 c/\(c=0/\IsFl es\/c=2):=Wp.mk ⟨_,rfl,.inr rfl⟩
 have loop:0<es.length->es.length<=64->∀(n i:Nat),i<=es.length->es.length-i<n->Shp es i->Wp (zy n (Int.ofNat es.length) (Int.ofNat i) es) λ v=>∃c,v=.int .i64 c/\(c=0/\IsFl es\/c=2):=by
  intro H C n
  induction n with
  | zero=>intro i _ h;omega
  | succ n U=>
   intro i hi hn hS;rw [zDF];refine Wp.lt (λ g=>?_) λ D=>?_
   ·obtain ⟨k,s,t,A,l,r,e,Y,n1,hs,q⟩:=h.1 _ (Qn g);have w:es[i]? = some (nd6 k s t A l r):=by rw [QE g,e]
    refine zBB w ?_
    obtain ⟨_,Q,b,rfl,M⟩:=zTv hs.1 q.1 k A l r;refine qk_b Q (Wp.if (λ _=>bad) λ B=>Wp.ite (λ _=>bad) λ a1=>Wp.ite (λ _=>bad) λ a2=>Wp.ite (λ _=>bad) λ a3=>Wp.ite (λ _=>bad) λ a4=>?_)
    obtain ⟨E,V,O,W⟩:=M (by simpa using B)
    have next:(7<=k->0<=l)->(8<=k->0<=r)->Wp (zy n (Int.ofNat es.length) (wrapx .i64 (Int.ofNat i+1)) es) λ v=>∃c,v=.int .i64 c/\(c=0/\IsFl es\/c=2):=λ J I=>by
     rw [zf (by omega)]
     refine U (i+1) g (by omega) λ j X=>?_
     by_cases y:j<i
     ·exact hS j y
     ·have:j=i:=by omega
      subst this;rw [qr] at a2 a4;exact ⟨k,s,t,A,l,r,w,E,V,hs.2,q.2,O,W,by omega,by omega,by omega,by omega,J,I⟩
    refine Wp.ite (λ z=>Wp.ite (λ _=>bad) λ c1=>Wp.ite (λ h8=>Wp.ite (λ _=>bad) λ c2=>?_) λ h8=>?_) λ z=>Wp.ite (λ h8=>?_) λ h8=>?_
    ·exact next (λ _=>by omega) λ _=>by omega
    ·exact next (λ _=>by omega) λ h=>absurd h h8
    ·exact absurd (show (7:Int)<=k by omega) z
    ·exact next (λ h=>absurd h z) λ h=>absurd h h8
   ·have:i=es.length:=by omega
    subst this;rw [zA5 H (by omega)]
    obtain ⟨v,v1,v2,v3,v4⟩:=zWD hS C (es.length-1) (by omega)
    refine qk_i (v3 FUEL (zx (by omega))) (Wp.if (λ _=>bad) λ p=>?_)
    have p:v=es.length:=by
     have p:(Int.ofNat v==Int.ofNat es.length)=true:=by
      cases e:(Int.ofNat v==Int.ofNat es.length) with
      | true=>rfl
      | false=>rw [bne,e] at p;cases p
     exact beqN.1 p
    obtain ⟨t,e,_,q⟩:=v4 (by omega) FUEL (zx (by omega)) (Int.ofNat 0)
    refine qk_s e ?_
    rw [zO4];cases hp:zDq t with
    | error e=>
     obtain ⟨e,f⟩:=e;have w:=zII q hp;show Wp (br (!(e==0&&f==0)) _ _) _
     rw [w];exact bad
    | ok u=>
     obtain ⟨T,R,u3⟩:=zHZ hp;show Wp (dK true [K.b] (zAl (u.fl 0) es) _) _
     refine qk_b (zK2 _ _ (zFi u 0) h.vo (by rw [RT.fl_length];omega)) (Wp.if (λ _=>bad) λ h=>Wp.mk ⟨_,rfl,.inl ⟨rfl,u,?_,T,R⟩⟩)
     exact (QO (by simpa using h):u.fl 0=es).symm
 have:Wp (zG es) λ v=>∃c,v=.int .i64 c/\(c=0/\IsFl es\/c=2):=by
  rw [zEu];refine Wp.ite (λ _=>bad) λ S=>Wp.ite (λ _=>bad) λ F=>?_
  rw [qr] at S F;rw [zD0];exact loop (by omega) (by omega) FUEL 0 (QR _) (zx (by omega)) λ j X=>by omega
 obtain ⟨_,e,c,rfl,h⟩:=this;exact ⟨c,e,h⟩
theorem zO8 {es:List AV} (h:Nds es):∃c,zBG es=some (.int .i64 c)/\zG es=some (.int .i64 c)/\(c=0/\(∃t:RT,es=t.fl 0/\t.wf/\t.size<=64)\/c=2):=by
 obtain ⟨c,hc,f⟩:=zNi h;obtain ⟨d,v,p⟩:=zVO h;by_cases j:IsFl es
 ·obtain ⟨t,rfl,g,e⟩:=j;have q:=zH7 t g e;have w:=zL3 t g e;rw [hc] at q;cases q;refine ⟨_,hc,w,f.imp (λ h=>⟨h.1,t,rfl,g,e⟩) id⟩
 ·rcases f with ⟨_,f⟩ | rfl
  ·exact absurd f j
  rcases p with ⟨_,p⟩ | rfl
  ·exact absurd p j
  exact ⟨2,hc,v,.inr rfl⟩
theorem zUr {t:RT} (g:t.wf) (j:t.size<=64) (hc:chkR t=0):zHQ (t.fl 0)=some (.qf [.str t.told,.int .i64 (Int.ofNat 0)])/\zCn (t.fl 0)=some (.qf [.str t.told,.int .i64 (Int.ofNat 0)]):=by
 have q:(t.fl 0).length=t.size:=t.fl_length 0;have f:=t.size_pos
 constructor
 ·refine zi ?_
  rw [zOu];have e:=zH1 (es:=t.fl 0) (M:=56) (by decide) t 0 FUEL (Qh (zx (by omega))) (by omega) (Seg.whole t) g.bd.1 g.kd
  rw [QV] at e;rw [q,zA5 f (by omega)]
  refine qk_i (zH7 t g j) ?_
  rw [hc];exact Wp.if (λ h=>by cases h) λ _=>qk_s e (Wp.mk rfl)
 ·refine zi ?_
  rw [zIi];have e:=zNg (es:=t.fl 0) (M:=56) (by decide) t 0 FUEL 0 (Qh (zx (by omega))) (by omega) (Seg.whole t) g.bd.1 g.bd.2 g.kd
  have p:parT t.tg 0 t.told=t.told:=by
   unfold parT;have:¬t.tg<0:=by
    unfold RT.tg;split
    ·repeat' split
     all_goals decide
    ·decide
   rw [if_neg this]
  rw [p,QV] at e;rw [q,zA5 f (by omega)]
  refine qk_i (zL3 t g j) ?_
  rw [hc];exact Wp.if (λ h=>by cases h) λ _=>qk_s e (Wp.mk rfl)
theorem zMy (n:Nat) (h:n<=9223372036854775807):zBE (n:Int) (Int.ofNat 10)=some (.str (dec n)):=by
 show (match ((Int.ofNat 10==10)&&decide (-9223372036854775808<=(n:Int)/\(n:Int)<=9223372036854775807)) with | true=>some (AV.str ((Lib.itoa n).map UInt8.toNat)) | false=>none)=_
 rw [QL (⟨by omega,by omega⟩:-9223372036854775808<=(n:Int)/\(n:Int)<=9223372036854775807)]
 unfold Lib.itoa;rw [if_neg (by omega),Int.toNat_natCast]
 rfl
theorem zNj (n:Nat) (h:n<100):zFF (n:Int)=some (.str (dec n)):=by
 show zJN [.int .i64 (n:Int)]=_
 unfold zJN;simp only;split
 ·rfl
 ·rename_i e;exact absurd e (by simp;omega)
abbrev zz (G:Prop) (v:AV):Prop:=v=.int .i64 0->G
theorem zW3 {o:Option AV} {G:Prop} (h:Wp o (zz G)) (e:o=some (.int .i64 0)):G:=by
 obtain ⟨v,f,k⟩:=h;rw [e] at f;cases f;exact k rfl
theorem zJV (x l m:Int):∃b,zBK x l m=some (.bool b)/\(b=true->l<=x/\x<=m):=by
 rw [zJq];by_cases h:x>=l
 ·rw [QL h];exact ⟨_,rfl,λ e=>⟨h,QO e⟩⟩
 ·rw [QN h];exact ⟨_,rfl,λ e=>by cases e⟩
def anyT:List Nat:=[97,110,121]
def zGZ (r:List AV) (t:List Nat):Prop:=0<r.length/\t.length<=1024/\zHQ r=some (.qf [.str t,.int .i64 (Int.ofNat 0)])/\zCn r=some (.qf [.str t,.int .i64 (Int.ofNat 0)])/\zCF r=some (.bool (decide (t=anyT)))
theorem zRC {t u:RT} (f:t.wf) (g:u.wf) (p:t.size<=64) (j:u.size<=64) (h:t.fl 0=u.fl 0):t.told=u.told:=by
 have a:=zH1 (es:=t.fl 0) (M:=56) (by decide) t 0 FUEL (Qh (zx (by omega))) (by omega) (Seg.whole t) f.bd.1 f.kd
 have b:=zH1 (es:=u.fl 0) (M:=56) (by decide) u 0 FUEL (Qh (zx (by omega))) (by omega) (Seg.whole u) g.bd.1 g.kd
 have e:t.size=u.size:=by rw [←t.fl_length 0,←u.fl_length 0,h]
 rw [h,e] at a;rw [a] at b;exact AV.str.inj (Qu b)
def anyM:RT:=.leaf 1 [] [] 0
theorem zWE:anyM.wf:=.inl ⟨rfl,rfl,rfl,rfl⟩
theorem zTw:zDq anyT=.ok anyM:=by rfl
theorem zN5 {r:List AV} (B:Nds r) (h:zBG r=some (.int .i64 0)):∃t,zGZ r t:=by
 obtain ⟨c,p,_,j⟩:=zO8 B;rw [h] at p;cases p;rcases j with ⟨_,t,rfl,g,f⟩ | j
 ·have hc:chkR t=0:=by
   have:=zH7 t g f;rw [h] at this;exact (AV.int.inj (Qu this)).2.symm
  obtain ⟨q,w⟩:=zUr g f hc;unfold chkR at hc;cases hp:zDq t.told with
  | error e=>rw [hp] at hc;cases hc
  | ok u=>
   rw [hp] at hc;have hc:(if u.fl 0=t.fl 0 then (0:Int) else 2)=0:=hc
   obtain ⟨z,v,y⟩:=zHZ hp;have e:u.fl 0=t.fl 0:=by
    by_cases e:u.fl 0=t.fl 0
    ·exact e
    ·rw [if_neg e] at hc;cases hc
   have A:=zRC z g v f e;refine ⟨t.told,by rw [RT.fl_length];exact t.size_pos,by rw [←A];exact y,q,w,zi ?_⟩
   rw [zJY];have C:∀e:AV,e∈anyM.fl 0->e∈anyM.fl 0:=λ e h=>h
   refine zRl zIk (qk_b (zK1 (t.fl 0) (anyM.fl 0) (zFi t 0) (zFi anyM 0) (by rw [RT.fl_length];omega)) (Wp.mk ?_))
   congr 1;refine decide_eq_decide.2 ⟨λ h=>?_,λ h=>?_⟩
   ·exact zRC g zWE f (by decide) h
   ·rw [h,zTw] at hp;cases hp;exact e.symm
 ·cases j
def CK (k:Int) (u:List Nat) (b c d:Int) (i_:List Nat) (r:List AV) (ba:Int):Prop:=
 (k=1/\zAp 16 u=true/\(0<=b/\b<=3)/\(1<=c/\c<=64)/\(1<=d/\d<=c)/\ba=0/\(∃t,zGZ r t)/\(i_=[]\/zAp 16 i_=true)) ∨
 (k=2/\zAp 16 u=true/\(0<=b/\b<=3)/\(1<=c/\c<=64)/\d=0/\i_=[]/\ba=0/\∃t,zGZ r t) ∨
 (k=3/\u=[]/\b=0/\c=0/\d=0/\i_=[]/\r=[]/\1<=ba/\ba<=64)
theorem len0 {r:List AV} (h:(Int.ofNat r.length==0)=true):r=[]:=by
 have h:(r.length:Int)=0:=by simpa using h
 exact List.length_eq_zero_iff.1 (by omega)
theorem j1F {G:Prop}:Wp (zk false) (zz G):=by
 rw [zFm];exact Wp.if (λ _=>Wp.mk λ h=>by cases h) λ h=>by cases h
theorem j1B {G:Prop} {t:Bool} (h:t=true->G):Wp (zk t) (zz G):=by
 cases t
 ·exact j1F
 ·rw [zFm];exact Wp.if (λ h=>by cases h) λ _=>Wp.mk λ _=>h rfl
section
variable {k:Int} {n:List Nat} {u:List Nat} {b:Int} {c:Int} {d:Int} {i_:List Nat} {x1:Int} {x2:Int} {x3:Int} {x4:Int} {r:List AV} {ba:Int} {G:Prop}
theorem j2B {t:Bool} (q:Nds r) (w:i_.length<=2000000) (h:t=true->(∃y,zGZ r y)->(i_=[]\/zAp 16 i_=true)->G):Wp (zBC t k n u b c d i_ x1 x2 x3 x4 r ba) (zz G):=by
 rw [zFn];refine Wp.if (λ v=>?_) λ _=>j1F
 obtain ⟨z,e,_⟩:=zNi q;refine qk_i e (Wp.if (λ g=>?_) λ _=>j1F)
 have g:z=0:=by simpa using g
 have p:=zN5 q (g▸e)
 refine Wp.if (λ f=>?_) λ _=>?_
 ·have f:i_=[]:=zEc f;exact j1B λ _=>h v p (.inl f)
 ·refine qk_b (zHz i_ w) (Wp.if (λ A=>?_) λ _=>j1F)
  obtain ⟨B,_,_,_,_,j⟩:=p;exact qk_b j (j1B λ _=>h v ⟨B,by assumption,by assumption,by assumption,by assumption,j⟩ (.inr A))
theorem zQY (B:Nds r) (R:n.length<=2000000) (K:u.length<=2000000) (H:i_.length<=2000000) (h:zDv k n u b c d i_ x1 x2 x3 x4 r ba=some (.int .i64 0)):zAp 16 n=true/\okA x1 x2 x3 x4/\CK k u b c d i_ r ba:=by
 refine zW3 ?_ h
 have D:∀{t:Bool},Wp (zCQ t k n u b c d i_ x1 x2 x3 x4 r ba) (zz (t=true/\CK k u b c d i_ r ba)):=λ{t}=>by
  rw [zH6];have e:=zHz u K;obtain ⟨T,f1,g1⟩:=zJV b (Int.ofNat 0) (Int.ofNat 3);obtain ⟨V,f2,g2⟩:=zJV c (Int.ofNat 1) (Int.ofNat 64);obtain ⟨U,f3,g3⟩:=zJV d (Int.ofNat 1) c;obtain ⟨S,f4,g4⟩:=zJV ba (Int.ofNat 1) (Int.ofNat 64);have F:=λ{t}=>j2B (k:=k) (n:=n) (u:=u) (b:=b) (c:=c) (d:=d) (i_:=i_) (x1:=x1) (x2:=x2) (x3:=x3) (x4:=x4) (ba:=ba) (t:=false) (G:=t=true/\CK k u b c d i_ r ba) B H λ h=>by cases h
  refine Wp.if (λ p=>?_) λ _=>Wp.if (λ p=>?_) λ _=>Wp.if (λ p=>?_) λ _=>j1F
  ·refine Wp.if (λ j=>qk_b e (Wp.if (λ y=>qk_b f1 (Wp.if (λ w=>qk_b f2 (Wp.if (λ g=>qk_b f3 (Wp.if (λ A=>j2B B H λ q Q M=>⟨j,.inl ⟨by simpa using p,y,g1 w,g2 g,g3 A,by simpa using q,Q,M⟩⟩) λ _=>F)) λ _=>F)) λ _=>F)) λ _=>F)) λ _=>F
  ·refine Wp.if (λ j=>qk_b e (Wp.if (λ y=>qk_b f1 (Wp.if (λ w=>qk_b f2 (Wp.if (λ g=>Wp.if (λ A=>Wp.if (λ q=>Wp.if (λ C=>?_) λ _=>j1F) λ _=>j1F) λ _=>j1F) λ _=>j1F)) λ _=>j1F)) λ _=>j1F)) λ _=>j1F
   obtain ⟨z,E,_⟩:=zNi B;refine qk_i E (j1B λ f=>⟨j,.inr (.inl ⟨by simpa using p,y,g1 w,g2 g,by simpa using A,zEc q,by simpa using C,?_⟩)⟩)
   have f:z=0:=by simpa using f
   exact zN5 B (f▸E)
  ·exact Wp.if (λ j=>Wp.if (λ w=>Wp.if (λ g=>Wp.if (λ A=>Wp.if (λ q=>Wp.if (λ C=>Wp.if (λ O=>qk_b f4 (j1B λ J=>⟨j,.inr (.inr ⟨by simpa using p,zEc w,by simpa using g,by simpa using A,by simpa using q,zEc C,len0 O,g4 J⟩)⟩)) λ _=>j1F) λ _=>j1F) λ _=>j1F) λ _=>j1F) λ _=>j1F) λ _=>j1F) λ _=>j1F
 rw [zJZ];have e:=zHz n R;refine qk_b e (Wp.if (λ y=>qk_i (zKm x1 x2 x3 x4) (Wp.if (λ f=>?_) λ _=>D.mono λ v h z=>by cases (h z).1)) λ _=>D.mono λ v h z=>by cases (h z).1)
 refine D.mono λ v h z=>⟨y,?_,(h z).2⟩
 by_cases I:okA x1 x2 x3 x4
 ·exact I
 ·rw [if_neg I] at f;cases f
end
end Go.Proofs.YtdeeimaahdgeaaaGreatDoor.spec
namespace Go.Proofs.YtdeeimaahdgeaaaGreatDoor.spec
open Go Go.Sy
variable [MX]
abbrev o1 (c:Bool) (key v:List Nat):List (List Nat):=if c=true then [key++(61::v)] else []
def OKL (m:Nat) (L:List (List Nat)):Prop:=L.length<=m/\∀w∈L,w.length<=1100
theorem OKL.put {m:Nat} {L:List (List Nat)} (h:OKL m L) (c:Bool) {key v:List Nat} (f:key.length+v.length<=1099):OKL (m+1) (L++o1 c key v):=by
 cases c with
 | false=>simp only [o1];exact ⟨by have:=h.1;simp;omega,by simpa using h.2⟩
 | true=>
  simp only [o1];refine ⟨by have:=h.1;simp;omega,λ w e=>?_⟩
  rcases QI.1 e with e | e
  ·exact h.2 w e
  ·have e:w=key++(61::v):=by simpa using e
   subst e;rw [QC,QK];omega
theorem put {β:Type} {P:β->Prop} {f:List AV->Option β} {key v:List Nat} {c:Bool} {L:List (List Nat)} {m:Nat} (h:OKL m L) (hm:m<=1000) (p:key.length+v.length<=1099) (q:OKL (m+1) (L++o1 c key v)->Wp (f ((L++o1 c key v).map .str)) P):
  Wp (dD true [D.v (K.qf 0),D.hc 0 false 1,D.v (K.c (AV.sym 0)),D.vec 0 1] (zBk key v c (L.map .str)) f) P:=by
 have q:=q (h.put c p);refine zQU (x3:=(L++o1 c key v).map .str) ?_ q
 refine zi ?_
 rw [zNm];cases c with
 | false=>
  refine Wp.if (λ h=>by cases h) λ _=>Wp.mk ?_
  simp [o1]
 | true=>
  have w:=h.1;have e:∀x:AV,(chunks 1 1 [x]).length=1:=λ x=>rfl
  have g:([61]:List Nat).length=1:=rfl;refine Wp.if (λ _=>Wp.gd (by rw [g];show key.length+1<=9223372036854775807;omega) (Wp.gd (by rw [QC,g];show key.length+1+v.length<=9223372036854775807;omega) (Wp.gd (zRn (k:=16) (by rw [e,Qb];omega) (by omega)) (Wp.mk ?_)))) λ h=>by cases h
  have j:∀x:List Nat,chunks 1 1 (List.drop 0 (qm [.str []] 0 (AV.cells (.str x))))=[.str x]:=λ x=>rfl
  rw [j,List.map_append];simp [o1]
theorem zQz:∀W:List (List Nat),strs (W.map .str)=some W
 | []=>rfl
 | w::r=>by
  have e:=zQz r;show (match strs (r.map .str) with
   | some x=>some (w::x)
   | none=>none)=_
  rw [e]
theorem zN6 (w:List Nat) (r:List (List Nat)):zEv [32] (w::r)=w++(r.map ([32]++·)).flatten:=rfl
theorem zO9 {B:Nat}:∀{W:List (List Nat)},(∀w∈W,w.length<=B)->(zEv [32] W).length<=W.length*(B+1)
 | [],_=>QR _
 | [w],h=>by
  have:=h w (.head _);show (w++[]).length<=_
  simp;omega
 | w::x::r,h=>by
  have j:=zO9 (B:=B) (W:=x::r) λ y g=>h y (.tail _ g)
  have p:=h w (.head _);have f:zEv [32] (w::x::r)=w++(32::zEv [32] (x::r)):=by simp [zN6]
  rw [f,QC,QK];have e:(w::x::r).length*(B+1)=(x::r).length*(B+1)+(B+1):=by rw [QK,Nat.succ_mul]
  rw [e];omega
theorem zQA:∀W:List (List Nat),flatten 1 (W.map .str)=some (W.map .str)
 | []=>rfl
 | w::r=>by
  have e:=zQA r;show (match flatten 1 (r.map .str) with
   | some f=>some ([AV.str w]++f)
   | none=>none)=_
  rw [e];rfl
theorem zWF {W:List (List Nat)} (h:OKL 100 W):zKw (W.map .str) [32]=some (.str (zEv [32] W)):=by
 have p:=zO9 h.2;have g:=h.1;have j:W.length*(1100+1)<=100*(1100+1):=Nat.mul_le_mul_right _ g;show zKD [.qp 1 (W.map .str),.str [32]] []=_
 have hc:content [] 1 (.qp 1 (W.map .str))=some (W.length,W.map .str):=by
  show (match flatten 1 (W.map .str) with
   | some f=>some ((W.map AV.str).length,f)
   | none=>none)=_
  rw [Qb,zQA]
 unfold zKD;simp only [show isSl (.qp 1 (W.map .str))=true from rfl,hc,zQz]
 have e:(Nat.ble W.length 140737488355328&&Nat.ble (zEv [32] W).length 140737488355328)=true:=by
  rw [QA];exact ⟨Nat.ble_eq_true_of_le (by omega),Nat.ble_eq_true_of_le (by omega)⟩
 rw [e]
theorem zW4:FUEL=1180591620717411303419+1+1+1+1+1:=zDM
section
variable {k:Int} {n u i_ bs t:List Nat} {b c d x1 x2 x3 x4 ba:Nat} {r:List AV} {L:List (List Nat)}
abbrev zL5 (W:List (List Nat)) (v:AV):Prop:=v=.qf [.str (zEv [32] W),.int .i64 (Int.ofNat 0)]/\OKL 13 W
theorem zRD (h:OKL 12 L) (e:ba<100):Wp (zFG k n u (Int.ofNat b) (c:Int) (d:Int) i_ (x1:Int) (x2:Int) (x3:Int) (x4:Int) r (ba:Int) (L.map .str)) (zL5 (L++o1 (decide ((ba:Int) > 1)) [98,97,116,99,104] (dec ba))):=by
 rw [zMG];have f:=zCq ba (by omega)
 exact qk_s (zNj ba e) (put h (by omega) (by show 5+_<=_;omega) λ h=>qk_s (zWF ⟨by have:=h.1;omega,h.2⟩) (Wp.mk ⟨rfl,h⟩))
def zPx (rc:Bool) (r:List AV) (t:List Nat):Prop:=(rc=false/\(r=[]\/zCF r=some (.bool true)))\/(rc=true/\0<r.length/\zCF r=some (.bool false)/\zGZ r t)
theorem zTx {rc:Bool} (h:OKL 11 L) (f:ba<100) (w:zPx rc r t):Wp (br (decide (Int.ofNat (List.length r) > 0)) (dK true [K.b] (zCF r) λ p=>zCt (!p) k n u (Int.ofNat b) (c:Int) (d:Int) i_ (x1:Int) (x2:Int) (x3:Int) (x4:Int) r (ba:Int) (L.map .str)) (zCt false k n u (Int.ofNat b) (c:Int) (d:Int) i_ (x1:Int) (x2:Int) (x3:Int) (x4:Int) r (ba:Int) (L.map .str))) (zL5 (L++o1 rc [114,117,108,101] (34::(t++[34]))++o1 (decide ((ba:Int) > 1)) [98,97,116,99,104] (dec ba))):=by
 have no:rc=false->Wp (zCt false k n u (Int.ofNat b) (c:Int) (d:Int) i_ (x1:Int) (x2:Int) (x3:Int) (x4:Int) r (ba:Int) (L.map .str)) (zL5 (L++o1 rc [114,117,108,101] (34::(t++[34]))++o1 (decide ((ba:Int) > 1)) [98,97,116,99,104] (dec ba))):=λ e=>by
  subst e;rw [zIl];refine Wp.if (λ h=>by cases h) λ _=>?_
  have:=zRD (k:=k) (n:=n) (u:=u) (b:=b) (c:=c) (d:=d) (i_:=i_) (x1:=x1) (x2:=x2) (x3:=x3) (x4:=x4) (r:=r) (ba:=ba) (L:=L) ⟨by have:=h.1;omega,h.2⟩ f
  have e:L++o1 false [114,117,108,101] (34::(t++[34]))=L:=by simp [o1]
  rw [e];exact this
 rcases w with ⟨e,rfl | j⟩ | ⟨e,z,j,y⟩
 ·exact Wp.ite (λ h=>by cases h) λ _=>no e
 ·exact Wp.ite (λ _=>qk_b j (no e)) λ _=>no e
 ·subst e;refine Wp.ite (λ _=>qk_b j ?_) λ h=>absurd (by rw [qr];omega) h
  obtain ⟨_,A,q,_,_⟩:=y;show Wp (zCt true k n u (Int.ofNat b) (c:Int) (d:Int) i_ (x1:Int) (x2:Int) (x3:Int) (x4:Int) r (ba:Int) (L.map .str)) _
  rw [zIl];have g:([34]:List Nat).length=1:=rfl;refine Wp.if (λ _=>zMq q (Wp.gd (by rw [g];show 1+t.length<=9223372036854775807;omega) (Wp.gd (by rw [QC,g];show 1+t.length+1<=9223372036854775807;omega) ?_))) λ h=>by cases h
  exact put (key:=[114,117,108,101]) (v:=34::(t++[34])) h (by omega) (by show 4+(34::(t++[34])).length<=_;rw [QK,QC];show 4+(t.length+1+1)<=_;omega) λ h=>zRD h f
theorem zVP {rc:Bool} (h:OKL 7 L) (e:ba<100) (p:x1<=1099511627776) (g:x2<=1099511627776) (q:x3<=1099511627776) (j:x4<=1099511627776) (f:zPx rc r t):Wp (zE8 FUEL (Int.ofNat 4) (Int.ofNat 0) k n u (Int.ofNat b) (c:Int) (d:Int) i_ (x1:Int) (x2:Int) (x3:Int) (x4:Int) r (ba:Int) [.agg [.str [99,112,117],.int .i64 (x1:Int)],.agg [.str [114,97,109],.int .i64 (x2:Int)],.agg [.str [100,105,115,107],.int .i64 (x3:Int)],.agg [.str [112,111,114,116,115],.int .i64 (x4:Int)]] (L.map .str)) (zL5 (L++o1 ((x1:Int) != 0) [99,112,117] (dec x1)++o1 ((x2:Int) != 0) [114,97,109] (dec x2)++o1 ((x3:Int) != 0) [100,105,115,107] (dec x3)++o1 ((x4:Int) != 0) [112,111,114,116,115] (dec x4)++o1 rc [114,117,108,101] (34::(t++[34]))++o1 (decide ((ba:Int) > 1)) [98,97,116,99,104] (dec ba))):=by
 rw [zW4];rw [zCH];refine Wp.ite (λ _=>?_) λ h=>absurd (by decide:((0:Int))<4) h
 refine Wp.gd ⟨(by decide:(0:Int)<=0),(by decide:((0:Int))<4)⟩ (zMp (x2:=[99,112,117]) (x3:=(x1:Int)) rfl (qk_s (zMy x1 (by omega)) (put h (by omega) (by have:=zCq x1 (by omega);show 3+_<=_;omega) λ h=>?_)))
 rw [show wrapx .i64 (Int.ofNat 0+1)=Int.ofNat 1 from rfl]
 rw [zCH];refine Wp.ite (λ _=>?_) λ h=>absurd (by decide:((1:Int))<4) h
 refine Wp.gd ⟨(by decide:(0:Int)<=1),(by decide:((1:Int))<4)⟩ (zMp (x2:=[114,97,109]) (x3:=(x2:Int)) rfl (qk_s (zMy x2 (by omega)) (put h (by omega) (by have:=zCq x2 (by omega);show 3+_<=_;omega) λ h=>?_)))
 rw [show wrapx .i64 (Int.ofNat 1+1)=Int.ofNat 2 from rfl]
 rw [zCH];refine Wp.ite (λ _=>?_) λ h=>absurd (by decide:((2:Int))<4) h
 refine Wp.gd ⟨(by decide:(0:Int)<=2),(by decide:((2:Int))<4)⟩ (zMp (x2:=[100,105,115,107]) (x3:=(x3:Int)) rfl (qk_s (zMy x3 (by omega)) (put h (by omega) (by have:=zCq x3 (by omega);show 4+_<=_;omega) λ h=>?_)))
 rw [show wrapx .i64 (Int.ofNat 2+1)=Int.ofNat 3 from rfl]
 rw [zCH];refine Wp.ite (λ _=>?_) λ h=>absurd (by decide:((3:Int))<4) h
 refine Wp.gd ⟨(by decide:(0:Int)<=3),(by decide:((3:Int))<4)⟩ (zMp (x2:=[112,111,114,116,115]) (x3:=(x4:Int)) rfl (qk_s (zMy x4 (by omega)) (put h (by omega) (by have:=zCq x4 (by omega);show 5+_<=_;omega) λ h=>?_)))
 rw [show wrapx .i64 (Int.ofNat 3+1)=Int.ofNat 4 from rfl]
 rw [zCH];refine Wp.ite (λ h=>absurd h (by decide:¬((4:Int))<4)) λ _=>?_
 exact zTx h e f
theorem zVQ {rc:Bool} (h:OKL 2 L) (z:u.length<=16) (A:i_.length<=16) (p:zFk (Int.ofNat b)=some (.str bs)) (g:bs.length<=16) (hc:c<100) (f:d<100) (e:ba<100) (v:x1<=1099511627776) (j:x2<=1099511627776) (y:x3<=1099511627776) (q:x4<=1099511627776) (w:zPx rc r t):Wp (zBp k n u (Int.ofNat b) (c:Int) (d:Int) i_ (x1:Int) (x2:Int) (x3:Int) (x4:Int) r (ba:Int) (L.map .str)) (zL5 (L++o1 (!seqb u []) [117,115,101,114] u++o1 (Int.ofNat b != 0) [98,97,110,100] bs++o1 (decide ((c:Int) > 1)) [99,111,117,110,116] (dec c)++o1 (decide ((d:Int) > 1)) [100,111,119,110] (dec d)++o1 (!seqb i_ []) [105,110] i_++o1 ((x1:Int) != 0) [99,112,117] (dec x1)++o1 ((x2:Int) != 0) [114,97,109] (dec x2)++o1 ((x3:Int) != 0) [100,105,115,107] (dec x3)++o1 ((x4:Int) != 0) [112,111,114,116,115] (dec x4)++o1 rc [114,117,108,101] (34::(t++[34]))++o1 (decide ((ba:Int) > 1)) [98,97,116,99,104] (dec ba))):=by
 rw [zMH];have B:=zCq c (by omega)
 have C:=zCq d (by omega)
 exact put h (by omega) (by show 4+_<=_;omega) λ h=>qk_s p (put h (by omega) (by show 4+_<=_;omega) λ h=>qk_s (zNj c hc) (put h (by omega) (by show 5+_<=_;omega) λ h=>qk_s (zNj d f) (put h (by omega) (by show 4+_<=_;omega) λ h=>put h (by omega) (by show 2+_<=_;omega) λ h=>zVP h e v j y q w)))
end
end Go.Proofs.YtdeeimaahdgeaaaGreatDoor.spec
namespace Go.Proofs.YtdeeimaahdgeaaaGreatDoor.spec
open Go Go.Sy
variable [MX]
theorem zK5 (n:Nat) (p:n<=9223372036854775807):∀d:Nat,n<d->zB d (n:Int)=some (.str (dec n)):=by
 induction n using Nat.strongRecOn with
 | ind n f=>
  intro d j;obtain ⟨d,rfl⟩:∃k,d=k+1:=⟨d-1,by omega⟩
  refine zi ?_
  rw [zHG];refine Wp.ite (λ h=>?_) λ h=>?_
  ·have h:n<10:=by omega
   rw [zKX n h,zKr,if_pos h];exact Wp.mk rfl
  ·have h:¬n<10:=by omega
   have e:wrapx .i64 (Int.tdiv (n:Int) 10)=((n / 10:Nat):Int):=by
    rw [show Int.tdiv (n:Int) 10=((n / 10:Nat):Int) from rfl,zT (by omega) (by omega)]
   have g:Int.tmod (n:Int) 10=((n % 10:Nat):Int):=rfl;rw [e,g];refine qk_s (f (n / 10) (by omega) (by omega) d (by omega)) ?_
   rw [zKX (n % 10) (Nat.mod_lt n (by decide)),zKr n,if_neg h]
   have:=zCq (n / 10) (by omega)
   refine Wp.gd ?_ (Wp.mk rfl)
   show (dec (n / 10)).length+1<=zc
   unfold zc;omega
theorem zMz {n k:Nat} (g:k<10):dec n=[48+k]↔n=k:=by
 rw [zKr];by_cases h:n<10
 ·rw [if_pos h]
  constructor
  ·intro h;have:=List.head_eq_of_cons_eq h;omega
  ·rintro rfl;rfl
 ·rw [if_neg h]
  constructor
  ·intro e;have:=congrArg List.length e;rw [QC] at this;have f:(dec (n / 10)).length=0:=by
    have this:(dec (n / 10)).length+1=1:=this;omega
   rw [zKr] at f;split at f
   ·cases f
   ·rw [QC] at f;have f:(dec (n / 10 / 10)).length+1=0:=f;omega
  ·rintro rfl;omega
def pt (c:Bool) (key v:List Nat):List Nat:=if c=true then [32]++key++[61]++v else []
theorem zF3 (c:Bool) (key v:List Nat):(pt c key v).length<=key.length+v.length+2:=by
 unfold pt;split
 ·simp only [QC,QK,QS];omega
 ·exact QR _
theorem zEW {key v un:List Nat} {c:Bool} (e:key.length+v.length<=2000000) (hc:c=!seqb v un):zv key v un=some (.str (pt c key v)):=by
 refine zi ?_
 rw [zIh];subst hc;refine Wp.if (λ h=>?_) λ h=>?_
 ·rw [h];exact Wp.mk rfl
 ·rw [h];exact Wp.gd (by simp only [QC,QK,QS];show _<=9223372036854775807;omega) (Wp.gd (by simp only [QC,QK,QS];show _<=9223372036854775807;omega) (Wp.gd (by simp only [QC,QK,QS];show _<=9223372036854775807;omega) (Wp.mk rfl)))
def fl (A:List (List Nat)):List Nat:=(A.map ([32]++·)).flatten
theorem zWG (A B:List (List Nat)):fl (A++B)=fl A++fl B:=by unfold fl;rw [List.map_append,List.flatten_append]
theorem zW5 (c:Bool) (key v:List Nat):fl (o1 c key v)=pt c key v:=by
 unfold fl pt o1;cases c <;> simp
theorem zPa (b:Int):∃s,zFk b=some (.str s)/\zM b=some (.str s)/\s.length<=16/\(0<=b->b<=3->(!seqb s [102,114,101,101])=(b != 0)):=by
 by_cases e:b<0
 ·exact ⟨[],by rw [zG4,QL e];rfl,by rw [zAf,QL e];rfl,by decide,λ h=>by omega⟩
 by_cases f:3<b
 ·refine ⟨[],?_,by rw [zAf,QN e,QL (show b > 3 from f)];rfl,by decide,λ _ h=>by omega⟩
  rw [zG4,QN e,zG1];show br (decide (b>=4)) _ _=_
  rw [QL (show b>=4 by omega)];rfl
 have:b=0\/b=1\/b=2\/b=3:=by omega
 rcases this with rfl | rfl | rfl | rfl
 all_goals rw [zG4,zAf,zG1,zCI]
 ·exact ⟨_,rfl,rfl,by decide,λ _ _=>rfl⟩
 ·exact ⟨_,rfl,rfl,by decide,λ _ _=>rfl⟩
 ·exact ⟨_,rfl,rfl,by decide,λ _ _=>rfl⟩
 ·exact ⟨_,rfl,rfl,by decide,λ _ _=>rfl⟩
theorem un1 {n:Nat} (h:1<=n):decide ((n:Int) > 1)=!seqb (dec n) [49]:=by
 rw [zAP];by_cases e:n=1
 ·rw [QL ((zMz (k:=1) (by decide)).2 e),QN (by omega)];rfl
 ·rw [QN λ h=>e ((zMz (k:=1) (by decide)).1 h),QL (by omega)];rfl
theorem un0 {n:Nat}:((n:Int) != 0)=!seqb (dec n) [48]:=by
 rw [zAP];by_cases e:n=0
 ·rw [QL ((zMz (k:=0) (by decide)).2 e),e];rfl
 ·rw [QN λ h=>e ((zMz (k:=0) (by decide)).1 h)]
  have:¬(n:Int)=0:=by omega
  simpa using this
section
variable {k:Int} {n u i_ bs t out:List Nat} {b c d x1 x2 x3 x4 ba:Nat} {r:List AV} {rc:Bool}
theorem zTy (ho:out.length<=10000) (p:x1<=1099511627776) (g:x2<=1099511627776) (q:x3<=1099511627776) (j:x4<=1099511627776) (A:(k=3/\rc=false/\1<=ba/\ba<=64)\/(k≠3/\ba=0/\zGZ r t/\rc=!decide (t=anyT))):Wp (zBQ out k n u (Int.ofNat b) (c:Int) (d:Int) i_ (x1:Int) (x2:Int) (x3:Int) (x4:Int) r (ba:Int)) λ v=>v=.qf [.str (out++(pt ((x1:Int) != 0) [99,112,117] (dec x1)++pt ((x2:Int) != 0) [114,97,109] (dec x2)++pt ((x3:Int) != 0) [100,105,115,107] (dec x3)++pt ((x4:Int) != 0) [112,111,114,116,115] (dec x4)++pt rc [114,117,108,101] (34::(t++[34]))++pt (decide ((ba:Int) > 1)) [98,97,116,99,104] (dec ba))),.int .i64 (Int.ofNat 0)]:=by
 rw [zHj];have D:=λ(x:Nat) (h:x<=1099511627776)=>zK5 x (by omega) FUEL (zx (by omega))
 have L:=λ(x:Nat) (h:x<=1099511627776)=>zCq x (by omega)
 have V:=L x1 p;have W:=L x2 g;have Q:=L x3 q;have R:=L x4 j;have S:=zF3 ((x1:Int) != 0) [99,112,117] (dec x1);have q1:([99,112,117]:List Nat).length=3:=rfl;have I:=zF3 ((x2:Int) != 0) [114,97,109] (dec x2);have Y:([114,97,109]:List Nat).length=3:=rfl;have E:=zF3 ((x3:Int) != 0) [100,105,115,107] (dec x3);have M:([100,105,115,107]:List Nat).length=4:=rfl;have F:=zF3 ((x4:Int) != 0) [112,111,114,116,115] (dec x4);have T:([112,111,114,116,115]:List Nat).length=5:=rfl;refine qk_s (D x1 p) (qk_s (zEW (by omega) un0) (Wp.gd (by (try simp only [QC]);show _<=9223372036854775807;omega) (qk_s (D x2 g) (qk_s (zEW (by omega) un0) (Wp.gd (by (try simp only [QC]);show _<=9223372036854775807;omega) (qk_s (D x3 q) (qk_s (zEW (by omega) un0) (Wp.gd (by (try simp only [QC]);show _<=9223372036854775807;omega) (qk_s (D x4 j) (qk_s (zEW (by omega) un0) (Wp.gd (by (try simp only [QC]);show _<=9223372036854775807;omega) ?_)))))))))))
 rcases A with ⟨rfl,rfl,f,B⟩ | ⟨y,rfl,⟨_,J,_,z,_⟩,e⟩
 ·have U:=zCq ba (by omega)
  have O:=zF3 (decide ((ba:Int) > 1)) [98,97,116,99,104] (dec ba);have K:([98,97,116,99,104]:List Nat).length=5:=rfl;refine Wp.if (λ _=>qk_s (D ba (by omega)) (qk_s (zEW (by omega) (un1 f)) (Wp.gd (by (try simp only [QC]);show _<=9223372036854775807;omega) (Wp.mk ?_)))) λ h=>by cases h
  simp only [Qi];rfl
 ·have w:pt (decide (((0:Nat):Int) > 1)) [98,97,116,99,104] (dec 0)=[]:=rfl;rw [w,List.append_nil];refine Wp.if (λ h=>absurd (by simpa using h) y) λ _=>zMq z ?_
  rw [zAP,←show anyT=[97,110,121] from rfl,←e]
  have H:([32,114,117,108,101,61,34]:List Nat).length=7:=rfl;have X:([34]:List Nat).length=1:=rfl;cases rc with
  | true=>
   refine Wp.if (λ _=>Wp.gd (by (try simp only [QC]);show _<=9223372036854775807;omega) (Wp.gd (by (try simp only [QC]);show _<=9223372036854775807;omega) (Wp.gd (by (try simp only [QC]);show _<=9223372036854775807;omega) (Wp.mk ?_)))) λ h=>by cases h
   simp only [Qi];rfl
  | false=>
   refine Wp.if (λ h=>by cases h) λ _=>Wp.mk ?_
   have C:pt false [114,117,108,101] (34::(t++[34]))=[]:=rfl;rw [C,List.append_nil];simp only [Qi]
end
end Go.Proofs.YtdeeimaahdgeaaaGreatDoor.spec
namespace Go.Proofs.YtdeeimaahdgeaaaGreatDoor.spec
open Go Go.Sy
variable [MX]
section
variable {k:Int} {n u i_ bs t out kw:List Nat} {b c d x1 x2 x3 x4 ba:Nat} {r:List AV} {rc:Bool}
theorem zTz (ho:out.length<=9000) (D:i_.length<=16) (z:(k=1/\1<=d/\d<=64)\/(k≠1/\d=0/\i_=[])) (p:x1<=1099511627776) (g:x2<=1099511627776) (w:x3<=1099511627776) (j:x4<=1099511627776) (q:(k=3/\rc=false/\1<=ba/\ba<=64)\/(k≠3/\ba=0/\zGZ r t/\rc=!decide (t=anyT))):Wp (zBR out k n u (Int.ofNat b) (c:Int) (d:Int) i_ (x1:Int) (x2:Int) (x3:Int) (x4:Int) r (ba:Int)) λ v=>v=.qf [.str (out++(pt (decide ((d:Int) > 1)) [100,111,119,110] (dec d)++pt (!seqb i_ []) [105,110] i_++pt ((x1:Int) != 0) [99,112,117] (dec x1)++pt ((x2:Int) != 0) [114,97,109] (dec x2)++pt ((x3:Int) != 0) [100,105,115,107] (dec x3)++pt ((x4:Int) != 0) [112,111,114,116,115] (dec x4)++pt rc [114,117,108,101] (34::(t++[34]))++pt (decide ((ba:Int) > 1)) [98,97,116,99,104] (dec ba))),.int .i64 (Int.ofNat 0)]:=by
 rw [zHk];rcases z with ⟨rfl,e,y⟩ | ⟨A,rfl,rfl⟩
 ·have E:=zCq d (by omega)
  have C:=zF3 (decide ((d:Int) > 1)) [100,111,119,110] (dec d);have q1:([100,111,119,110]:List Nat).length=4:=rfl;have B:=zF3 (!seqb i_ []) [105,110] i_;have F:([105,110]:List Nat).length=2:=rfl;refine Wp.if (λ _=>qk_s (zK5 d (by omega) FUEL (zx (by omega))) (qk_s (zEW (by omega) (un1 e)) (Wp.gd (by (try simp only [QC]);show _<=9223372036854775807;omega) (qk_s (zEW (by omega) rfl) (Wp.gd (by (try simp only [QC]);show _<=9223372036854775807;omega) ((zTy (by simp only [QC];omega) p g w j q).mono λ v f=>?_)))))) λ h=>by cases h
  rw [f];simp only [Qi]
 ·refine Wp.if (λ h=>absurd (by simpa using h) A) λ _=>(zTy (by omega) p g w j q).mono λ v f=>?_
  rw [f];rfl
theorem zWH (ho:out.length<=8000) (K:u.length<=16) (A:i_.length<=16) (C:zM (Int.ofNat b)=some (.str bs)) (B:bs.length<=16) (e:(!seqb bs [102,114,101,101])=(Int.ofNat b != 0)) (hc:(k≠3/\1<=c/\c<=64)\/(k=3/\u=[]/\b=0/\c=0)) (j:(k=1/\1<=d/\d<=64)\/(k≠1/\d=0/\i_=[])) (w:x1<=1099511627776) (p:x2<=1099511627776) (z:x3<=1099511627776) (q:x4<=1099511627776) (y:(k=3/\rc=false/\1<=ba/\ba<=64)\/(k≠3/\ba=0/\zGZ r t/\rc=!decide (t=anyT))):Wp (zN out k n u (Int.ofNat b) (c:Int) (d:Int) i_ (x1:Int) (x2:Int) (x3:Int) (x4:Int) r (ba:Int)) λ v=>v=.qf [.str (out++(pt (!seqb u []) [117,115,101,114] u++pt (Int.ofNat b != 0) [98,97,110,100] bs++pt (decide ((c:Int) > 1)) [99,111,117,110,116] (dec c)++pt (decide ((d:Int) > 1)) [100,111,119,110] (dec d)++pt (!seqb i_ []) [105,110] i_++pt ((x1:Int) != 0) [99,112,117] (dec x1)++pt ((x2:Int) != 0) [114,97,109] (dec x2)++pt ((x3:Int) != 0) [100,105,115,107] (dec x3)++pt ((x4:Int) != 0) [112,111,114,116,115] (dec x4)++pt rc [114,117,108,101] (34::(t++[34]))++pt (decide ((ba:Int) > 1)) [98,97,116,99,104] (dec ba))),.int .i64 (Int.ofNat 0)]:=by
 rw [zHl];rcases hc with ⟨D,g,E⟩ | ⟨rfl,rfl,rfl,rfl⟩
 ·have M:=zCq c (by omega)
  have J:=zF3 (!seqb u []) [117,115,101,114] u;have q1:([117,115,101,114]:List Nat).length=4:=rfl;have H:=zF3 (Int.ofNat b != 0) [98,97,110,100] bs;have O:([98,97,110,100]:List Nat).length=4:=rfl;have F:=zF3 (decide ((c:Int) > 1)) [99,111,117,110,116] (dec c);have I:([99,111,117,110,116]:List Nat).length=5:=rfl;refine Wp.if (λ _=>qk_s (zEW (by omega) rfl) (Wp.gd (by (try simp only [QC]);show _<=9223372036854775807;omega) (qk_s C (qk_s (zEW (by omega) e.symm) (Wp.gd (by (try simp only [QC]);show _<=9223372036854775807;omega) (qk_s (zK5 c (by omega) FUEL (zx (by omega))) (qk_s (zEW (by omega) (un1 g)) (Wp.gd (by (try simp only [QC]);show _<=9223372036854775807;omega) ((zTz (by simp only [QC];omega) A j w p z q y).mono λ v f=>?_))))))))) λ h=>absurd (by simpa using h) D
  rw [f];simp only [Qi]
 ·refine Wp.if (λ h=>by cases h) λ _=>(zTz (by omega) A j w p z q y).mono λ v f=>?_
  rw [f];rfl
theorem zVR (kw n:List Nat) (A:List (List Nat)):zEv [32] ([kw,n]++A)=kw++[32]++n++fl A:=by
 show zEv [32] (kw::(n::A))=_
 rw [zN6];unfold fl;rw [Qd,List.flatten_cons];simp only [Qi]
theorem zL6 (W:n.length<=16) (M:kw.length<=16) (H:u.length<=16) (J:i_.length<=16) (V:b<=3) (hc:(k≠3/\1<=c/\c<=64)\/(k=3/\u=[]/\b=0/\c=0)) (B:(k=1/\1<=d/\d<=64)\/(k≠1/\d=0/\i_=[])) (F:x1<=1099511627776) (C:x2<=1099511627776) (I:x3<=1099511627776) (E:x4<=1099511627776) (q:(k=3/\rc=false/\1<=ba/\ba<=64)\/(k≠3/\ba=0/\zGZ r t/\rc=!decide (t=anyT))) (z:k=3->r=[]):
  ∃s,zBp k n u (Int.ofNat b) (c:Int) (d:Int) i_ (x1:Int) (x2:Int) (x3:Int) (x4:Int) r (ba:Int) [.str kw,.str n]=some (.qf [.str s,.int .i64 (Int.ofNat 0)])/\zN (kw++[32]++n) k n u (Int.ofNat b) (c:Int) (d:Int) i_ (x1:Int) (x2:Int) (x3:Int) (x4:Int) r (ba:Int)=some (.qf [.str s,.int .i64 (Int.ofNat 0)]):=by
 obtain ⟨bs,g1,g2,g3,g4⟩:=zPa (Int.ofNat b);have y:zPx rc r t:=by
  rcases q with ⟨O,rfl,_⟩ | ⟨_,_,K,e⟩
  ·exact .inl ⟨rfl,.inl (z O)⟩
  ·obtain ⟨Q,_,_,_,f⟩:=id K;by_cases D:t=anyT
   ·rw [QL D] at f e;exact .inl ⟨e,.inr f⟩
   ·rw [QN D] at f e;exact .inr ⟨e,Q,f,K⟩
 have j:ba<100:=by rcases q with ⟨_,_,_,h⟩ | ⟨_,h,_⟩ <;> omega
 have g:c<100:=by rcases hc with ⟨_,_,h⟩ | ⟨_,_,_,h⟩ <;> omega
 have A:d<100:=by rcases B with ⟨_,_,h⟩ | ⟨_,h,_⟩ <;> omega
 have R:OKL 2 [kw,n]:=⟨QB _,λ w p=>by
  rcases QH.1 p with rfl | p
  ·omega
  ·rw [Qc.1 p];omega⟩
 obtain ⟨v,U,rfl,_⟩:=zVQ (k:=k) (n:=n) (L:=[kw,n]) R H J g1 g3 g A j F C I E y;have T:(kw++[32]++n).length<=8000:=by simp only [QC,QK,QS];omega
 obtain ⟨w,S,rfl⟩:=zWH (k:=k) (n:=n) (out:=kw++[32]++n) T H J g2 g3 (g4 (Qa _) (by rw [qr];omega)) hc B F C I E q
 refine ⟨_,U,S.trans ?_⟩
 congr 4;simp only [Qi];rw [zVR];simp only [zWG,zW5,Qi]
end
end Go.Proofs.YtdeeimaahdgeaaaGreatDoor.spec
namespace Go.Proofs.YtdeeimaahdgeaaaGreatDoor.spec
open Go Go.Sy
variable [MX]
theorem zTA {r:List AV} (p:vo r) (z:r.length<=2000000):zDc r r=some (.bool true):=by
 have loop:∀(f i:Nat),i<=r.length->r.length-i<f->Wp (zBs f (Int.ofNat i) r r) λ v=>v=.bool true:=by
  intro f
  induction f with
  | zero=>intro i _ h;omega
  | succ f q=>
   intro i A w;rw [zGI];refine Wp.lt (λ g=>?_) λ _=>Wp.mk rfl
   obtain ⟨k,a,b,n,x,y,e⟩:=p _ (Qn g);have j:ixN r (Int.ofNat i)=some (nd6 k a b n x y):=by
    show r[i]? = _
    rw [QE g,e]
   refine zB5 j (zB5 j ?_)
   simp only [beq_self_eq_true,zAP,decide_true,Bool.and_self,Bool.not_true];show Wp (br false _ _) _
   rw [zT7,zf (by omega)]
   exact q (i+1) g (by omega)
 refine zi ?_
 rw [zHC];exact Wp.if (λ h=>by rw [bne_self_eq_false] at h;cases h) λ _=>loop FUEL 0 (QR _) (by have:=zx (n:=2000001) (by omega);omega)
theorem zMA {m:Nat} {s:List Nat} (h:zAp m s=true):s.length<=m:=by
 unfold zAp at h;rw [QA] at h;exact QO h.1
theorem zF4 {x:Int} (h:0<=x):∃n:Nat,x=(n:Int):=Int.eq_ofNat_of_zero_le h
section
variable {k b c d x1 x2 x3 x4 ba:Int} {n u i_:List Nat} {r:List AV}
theorem zSl (q:Nds r) (I:n.length<=2000000) (F:u.length<=2000000) (H:i_.length<=2000000):∃z:Int,zDv k n u b c d i_ x1 x2 x3 x4 r ba=some (.int .i64 z)/\zAC k n u b c d i_ x1 x2 x3 x4 r ba=some (.int .i64 z) ∧
  ∃(s:List Nat) (y:Int),zF5 k n u b c d i_ x1 x2 x3 x4 r ba=some (.qf [.str s,.int .i64 y])/\zBu k n u b c d i_ x1 x2 x3 x4 r ba=some (.qf [.str s,.int .i64 y]):=by
 obtain ⟨c0,w,E,_⟩:=zO8 q;obtain ⟨z,j,p,U⟩:=zSi k n u b c d i_ x1 x2 x3 x4 r ba c0 I F H q.vo q.2 w E;refine ⟨z,j,p,?_⟩
 rcases U with rfl | rfl
 rotate_left
 ·refine ⟨[],2,zi ?_,zi ?_⟩
  ·rw [zFM];exact qk_i j (Wp.if (λ _=>Wp.mk rfl) λ h=>by cases h)
  ·rw [zBU];exact qk_i p (Wp.if (λ _=>Wp.mk rfl) λ h=>by cases h)
 obtain ⟨hn,W,Q⟩:=zQY q I F H j;have e:=zMA hn;obtain ⟨⟨V,q1⟩,⟨O,q2⟩,⟨J,q3⟩,⟨K,q4⟩⟩:=W;obtain ⟨x1,rfl⟩:=zF4 V;obtain ⟨x2,rfl⟩:=zF4 O;obtain ⟨x3,rfl⟩:=zF4 J;obtain ⟨x4,rfl⟩:=zF4 K;have A:∀i:List Nat,(i=[]\/zAp 16 i=true)->i.length<=16:=λ i h=>by
  rcases h with rfl | h
  ·exact QR _
  ·exact zMA h
 have go:∀(kw:List Nat) (s:List Nat) (y:Int),kw.length<=16->(∀P:AV->Prop,Wp (zBp k n u b c d i_ x1 x2 x3 x4 r ba [.str kw,.str n]) P->Wp (zF5 k n u b c d i_ x1 x2 x3 x4 r ba) P)->(∀P:AV->Prop,Wp (zN (kw++[32]++n) k n u b c d i_ x1 x2 x3 x4 r ba) P->Wp (zBu k n u b c d i_ x1 x2 x3 x4 r ba) P) →
   (zBp k n u b c d i_ x1 x2 x3 x4 r ba [.str kw,.str n]=some (.qf [.str s,.int .i64 y]))->(zN (kw++[32]++n) k n u b c d i_ x1 x2 x3 x4 r ba=some (.qf [.str s,.int .i64 y]))->∃(s:List Nat) (y:Int),zF5 k n u b c d i_ x1 x2 x3 x4 r ba=some (.qf [.str s,.int .i64 y])/\zBu k n u b c d i_ x1 x2 x3 x4 r ba=some (.qf [.str s,.int .i64 y]):=λ kw s y _ S M g f=>
  ⟨s,y,zi (S _ ⟨_,g,rfl⟩),zi (M _ ⟨_,f,rfl⟩)⟩
 have C:∀{R:Int},R=k->True:=λ _=>trivial
 rcases Q with ⟨rfl,B,⟨v,X⟩,⟨T,c2⟩,⟨d1,d2⟩,rfl,⟨t,D⟩,Y⟩ | ⟨rfl,B,⟨v,X⟩,⟨T,c2⟩,rfl,rfl,rfl,t,D⟩ | ⟨rfl,rfl,rfl,rfl,rfl,rfl,rfl,a1,a2⟩
 ·clear C
  obtain ⟨b,rfl⟩:=zF4 v;obtain ⟨c,rfl⟩:=zF4 (show 0<=c by omega)
  obtain ⟨d,rfl⟩:=zF4 (show 0<=d by omega)
  obtain ⟨s,g,f⟩:=zL6 (k:=1) (n:=n) (u:=u) (i_:=i_) (b:=b) (c:=c) (d:=d) (ba:=0) (x1:=x1) (x2:=x2) (x3:=x3) (x4:=x4) (r:=r) (t:=t) (rc:=!decide (t=anyT)) (kw:=[106,111,98]) e (by decide) (zMA B) (A _ Y) (by omega) (.inl ⟨by decide,by omega,by omega⟩) (.inl ⟨rfl,by omega,by omega⟩) (by omega) (by omega) (by omega) (by omega) (.inr ⟨by decide,rfl,D,rfl⟩) (λ h=>by cases h)
  refine go [106,111,98] s _ (by decide) (λ P h=>?_) (λ P h=>?_) g f
  ·rw [zFM];exact qk_i j (Wp.if (λ h=>by cases h) λ _=>Wp.ite (λ h=>absurd h (by decide)) λ _=>Wp.ite (λ h=>absurd h (by decide)) λ _=>Wp.ite (λ _=>h) λ h=>absurd rfl h)
  ·rw [zBU];exact qk_i p (Wp.if (λ h=>by cases h) λ _=>Wp.ite (λ h=>absurd h (by decide)) λ _=>Wp.ite (λ h=>absurd h (by decide)) λ _=>Wp.ite (λ _=>Wp.gd (by simp only [QC,QK,QS];show _<=9223372036854775807;omega) h) λ h=>absurd (by decide) h)
 ·clear C
  obtain ⟨b,rfl⟩:=zF4 v;obtain ⟨c,rfl⟩:=zF4 (show 0<=c by omega)
  obtain ⟨s,g,f⟩:=zL6 (k:=2) (n:=n) (u:=u) (i_:=[]) (b:=b) (c:=c) (d:=0) (ba:=0) (x1:=x1) (x2:=x2) (x3:=x3) (x4:=x4) (r:=r) (t:=t) (rc:=!decide (t=anyT)) (kw:=[97,108,108,111,99]) e (by decide) (zMA B) (QR _) (by omega) (.inl ⟨by decide,by omega,by omega⟩) (.inr ⟨by decide,rfl,rfl⟩) (by omega) (by omega) (by omega) (by omega) (.inr ⟨by decide,rfl,D,rfl⟩) (λ h=>by cases h)
  refine go [97,108,108,111,99] s _ (by decide) (λ P h=>?_) (λ P h=>?_) g f
  ·rw [zFM];exact qk_i j (Wp.if (λ h=>by cases h) λ _=>Wp.ite (λ h=>absurd h (by decide)) λ _=>Wp.ite (λ _=>h) λ h=>absurd rfl h)
  ·rw [zBU];exact qk_i p (Wp.if (λ h=>by cases h) λ _=>Wp.ite (λ h=>absurd h (by decide)) λ _=>Wp.ite (λ _=>Wp.gd (by simp only [QC,QK,QS];show _<=9223372036854775807;omega) h) λ h=>absurd (by decide) h)
 ·clear C
  obtain ⟨ba,rfl⟩:=zF4 (show 0<=ba by omega)
  obtain ⟨s,g,f⟩:=zL6 (k:=3) (n:=n) (u:=[]) (i_:=[]) (b:=0) (c:=0) (d:=0) (ba:=ba) (x1:=x1) (x2:=x2) (x3:=x3) (x4:=x4) (r:=[]) (t:=[]) (rc:=false) (kw:=[117,112,100,97,116,101]) e (by decide) (QR _) (QR _) (by omega) (.inr ⟨rfl,rfl,rfl,rfl⟩) (.inr ⟨by decide,rfl,rfl⟩) (by omega) (by omega) (by omega) (by omega) (.inl ⟨rfl,rfl,by omega,by omega⟩) (λ _=>rfl)
  refine go [117,112,100,97,116,101] s _ (by decide) (λ P h=>?_) (λ P h=>?_) g f
  ·rw [zFM];exact qk_i j (Wp.if (λ h=>by cases h) λ _=>Wp.ite (λ _=>h) λ h=>absurd rfl h)
  ·rw [zBU];exact qk_i p (Wp.if (λ h=>by cases h) λ _=>Wp.ite (λ _=>Wp.gd (by simp only [QC,QK,QS];show _<=9223372036854775807;omega) h) λ h=>absurd (by decide) h)
end
theorem law (k:Int) (n u:List Nat) (b c d:Int) (i_:List Nat) (x1 x2 x3 x4:Int) (r:List AV) (ba:Int) (nm:List Nat) (bd:Int) (f:Nds r) (E:n.length<=2000000) (B:u.length<=2000000) (C:i_.length<=2000000) (j:nm.length<=2000000):zCv k n u b c d i_ x1 x2 x3 x4 r ba nm bd=some (.bool true):=by
 obtain ⟨z,A,F,s,y,q,v⟩:=zSl (k:=k) (b:=b) (c:=c) (d:=d) (x1:=x1) (x2:=x2) (x3:=x3) (x4:=x4) (ba:=ba) f E B C;have w:zDf k n u b c d i_ x1 x2 x3 x4 r ba=some (.agg [.int .i64 k,.str n,.str u,.int .i64 b,.int .i64 c,.int .i64 d,.str i_,.int .i64 x1,.int .i64 x2,.int .i64 x3,.int .i64 x4,.qp 6 r,.int .i64 ba]):=by
  refine zi ?_
  rw [zHF];have H:=f.2;have:zDe r=some (.agg [.qp 6 r]):=by
   refine zi ?_
   rw [zHE];exact Wp.gd (zRn (k:=64) (by show 0+r.length<=_;omega) (by omega)) (Wp.mk rfl)
  exact zRl this (Wp.mk rfl)
 have hS:zDd k n u b c d i_ x1 x2 x3 x4 r ba k n u b c d i_ x1 x2 x3 x4 r ba=some (.bool true):=by
  rw [zHD,zTA f.vo f.2];simp only [beq_self_eq_true,zAP,decide_true,Bool.and_self,zVs,ek_b]
 obtain ⟨m,p,D,_⟩:=zTs nm;obtain ⟨bs,g1,g2,_⟩:=zPa bd;have g:∀x:Int,(x==x)=true:=λ x=>by simp
 have e:∀x:List Nat,seqb x x=true:=λ x=>by rw [zAP];simp
 refine zi ?_
 rw [zGJ];refine qk_b zTc (Wp.if (λ h=>by cases h) λ _=>zKS w (zMq q (zMq v (qk_i A (qk_i F (Wp.if (λ _=>Wp.if (λ _=>Wp.if (λ _=>qk_b hS (Wp.if (λ _=>qk_b (zHz nm j) (qk_b (zJT nm j) (Wp.if (λ _=>qk_i p (qk_i D (Wp.if (λ _=>qk_s g1 (qk_s g2 (Wp.mk ?_))) λ h=>?_))) λ h=>?_))) λ h=>?_)) λ h=>?_) λ h=>?_) λ h=>?_))))))
 ·rw [e]
 all_goals first | (rw [g] at h;cases h) | (rw [e] at h;cases h) | cases h | (simp at h)
end Go.Proofs.YtdeeimaahdgeaaaGreatDoor.spec
namespace Go.Proofs.YtdeeimaahdgeaaaGreatDoor.spec
open Go Go.Sy
variable [MX]
def zTB:List CD:=[.int .i64,.str,.str,.int .i64,.int .i64,.int .i64]
def zN7:List CD:=[.int .i64,.str,.str,.int .i64,.int .i64,.int .i64,.str,.int .i64,.int .i64,.int .i64,.int .i64,.sl zTB false,.int .i64]
section
variable {N:Nat}
theorem zL7 {a:AV} (h:CD.Ok N .str a):∃s,a=.str s/\s.length<=N/\∀c∈s,c<256:=by cases h with | str l h f e=>exact ⟨l,rfl,e,h⟩
theorem zEh {a:AV} (h:CD.Ok N (.int .i64) a):∃n,a=.int .i64 n/\-9223372036854775808<=n/\n<=9223372036854775807:=by cases h with | int k n h=>exact ⟨n,rfl,h.1,h.2⟩
theorem zBl {c:CD} {cs:List CD} {l:List AV} (h:CD.wH N (c::cs) l):∃a r,l=a::r/\CD.Ok N c a/\CD.wH N cs r:=by cases h with | cons h hs=>exact ⟨_,_,rfl,h,hs⟩
theorem zTC {l:List AV} (h:CD.wH N [] l):l=[]:=by cases h;rfl
theorem zW6 {es:List CD} {a:AV} (h:CD.Ok N (.sl es false) a):∃xs:List (List AV),a=.qp es.length (xs.map .agg)/\(∀x∈xs,CD.wH N es x)/\xs.length<=N:=by cases h with | agg es xs h e=>exact ⟨xs,rfl,h,e⟩
theorem zWI {a:AV} (F:N<=2000000) (h:CD.Ok N (.sl zTB false) a):∃r,a=.qp 6 r/\Nds r:=by
 obtain ⟨E,rfl,q,C⟩:=zW6 h;refine ⟨_,rfl,λ e A=>?_,by rw [Qb];omega⟩
 obtain ⟨x,y,rfl⟩:=Qf.1 A;obtain ⟨_,_,rfl,g,h⟩:=zBl (q x y);obtain ⟨_,_,rfl,z,h⟩:=zBl h;obtain ⟨_,_,rfl,p,h⟩:=zBl h;obtain ⟨_,_,rfl,B,h⟩:=zBl h;obtain ⟨_,_,rfl,v,h⟩:=zBl h;obtain ⟨_,_,rfl,w,h⟩:=zBl h;obtain rfl:=zTC h;obtain ⟨k,rfl,_⟩:=zEh g;obtain ⟨s,rfl,hs,j⟩:=zL7 z;obtain ⟨t,rfl,D,t8⟩:=zL7 p;obtain ⟨n,rfl,f⟩:=zEh B;obtain ⟨l,rfl,_⟩:=zEh v;obtain ⟨r,rfl,_⟩:=zEh w;exact ⟨k,s,t,n,l,r,rfl,f.1,f.2,⟨by omega,j⟩,⟨by omega,t8⟩⟩
theorem zVS {x:List AV} (E:N<=2000000) (h:CD.wH N zN7 x):∃k n u b c d i_ x1 x2 x3 x4 r ba,x=[.int .i64 k,.str n,.str u,.int .i64 b,.int .i64 c,.int .i64 d,.str i_,.int .i64 x1,.int .i64 x2,.int .i64 x3,.int .i64 x4,.qp 6 r,.int .i64 ba]/\Nds r/\n.length<=2000000/\u.length<=2000000/\i_.length<=2000000:=by
 obtain ⟨_,_,rfl,p,h⟩:=zBl h;obtain ⟨_,_,rfl,C,h⟩:=zBl h;obtain ⟨_,_,rfl,y,h⟩:=zBl h;obtain ⟨_,_,rfl,D,h⟩:=zBl h;obtain ⟨_,_,rfl,z,h⟩:=zBl h;obtain ⟨_,_,rfl,B,h⟩:=zBl h;obtain ⟨_,_,rfl,v,h⟩:=zBl h;obtain ⟨_,_,rfl,q,h⟩:=zBl h;obtain ⟨_,_,rfl,w,h⟩:=zBl h;obtain ⟨_,_,rfl,e,h⟩:=zBl h;obtain ⟨_,_,rfl,f,h⟩:=zBl h;obtain ⟨_,_,rfl,g,h⟩:=zBl h;obtain ⟨_,_,rfl,j,h⟩:=zBl h;obtain rfl:=zTC h;obtain ⟨_,rfl,_⟩:=zEh p;obtain ⟨_,rfl,H,_⟩:=zL7 C;obtain ⟨_,rfl,I,_⟩:=zL7 y;obtain ⟨_,rfl,_⟩:=zEh D;obtain ⟨_,rfl,_⟩:=zEh z;obtain ⟨_,rfl,_⟩:=zEh B;obtain ⟨_,rfl,F,_⟩:=zL7 v;obtain ⟨_,rfl,_⟩:=zEh q;obtain ⟨_,rfl,_⟩:=zEh w;obtain ⟨_,rfl,_⟩:=zEh e;obtain ⟨_,rfl,_⟩:=zEh f;obtain ⟨_,rfl,A⟩:=zWI E g;obtain ⟨_,rfl,_⟩:=zEh j;exact ⟨_,_,_,_,_,_,_,_,_,_,_,_,_,rfl,A,by omega,by omega,by omega⟩
end
theorem zWJ {N:Nat} (q:N<=2000000) {x:List AV} (hx:CD.wH N zN7 x) {nm:List Nat} (hm:nm.length<=2000000) {bd:Int}:FnT Tryz.prog G0 4 [.agg x,.str nm,.int .i64 bd] [] 0 (.bool true) [] 0:=by
 have g:=hx.pp;obtain ⟨k,n,u,b,c,d,i_,x1,x2,x3,x4,r,ba,rfl,p,v,w,h⟩:=zVS q hx;have e:=law k n u b c d i_ x1 x2 x3 x4 r ba nm bd p v w h hm;have j:zCO Tryz.prog G0 4 (gV t121 1 4):=(t121.ok FUEL).at;refine (j _ _ (λ z f=>?_) (by unfold zCv at e;exact e)).2.2 [] 0
 rcases QH.1 f with rfl | f
 ·exact .agg _ g
 rcases QH.1 f with rfl | f
 ·exact .str _
 ·rw [Qc.1 f];exact .int _ _
def zTD (H:Type):BK H:=⟨Rows.uptoBulk,Rows.uptoBulkAll,λ _=>rfl,λ d=>by
 cases d with
 | lit l=>cases l <;> exact Qx _
 | _=>exact Qx _,λ _ _=>rfl,λ _=>rfl,rfl,λ _ _=>rfl⟩
omit [MX] in
theorem zVT:cdOf Tryz.prog 9 37=some zN7:=by kernel_rfl
end Go.Proofs.YtdeeimaahdgeaaaGreatDoor.spec
