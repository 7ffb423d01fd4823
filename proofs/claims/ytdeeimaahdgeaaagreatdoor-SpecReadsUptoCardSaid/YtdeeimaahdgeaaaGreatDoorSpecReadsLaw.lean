/- THE LAW OF THE LEAN FUNCTIONS, IN PLAIN LEAN: part 2. No condition. -/
import Derived.Test.YtdeeimaahdgeaaaGreatDoorSpecReadsLawA
set_option linter.unusedVariables false
set_option linter.unusedSimpArgs false
set_option linter.unusedSectionVars false
namespace Go.Proofs.YtdeeimaahdgeaaaGreatDoor.spec
open Go Go.Sy
variable [MX]
def RT.rk:RT->Int
 | .leaf k _ _ _=>k
 | .not _=>7
 | .two k _ _=>k
theorem zWB (k:Int):zKM k=some (.int .i64 (if k=9 then 1 else if k=8 then 2 else if k=7 then 3 else 4)):=by
 refine zi ?_
 rw [zQc];refine Wp.if (λ h=>Wp.mk ?_) λ h=>Wp.if (λ d=>Wp.mk ?_) λ d=>Wp.if (λ g=>Wp.mk ?_) λ g=>Wp.mk ?_
 ·rw [if_pos (by simpa using h)];rfl
 ·rw [if_neg (by simpa using h),if_pos (by simpa using d)];rfl
 ·rw [if_neg (by simpa using h),if_neg (by simpa using d),if_pos (by simpa using g)];rfl
 ·rw [if_neg (by simpa using h),if_neg (by simpa using d),if_neg (by simpa using g)];rfl
theorem RT.root {es:List AV} {t:RT} {o:Nat} (h:Seg es t o):∃a b n l r,es[o+t.size-1]? = some (nd6 t.rk a b n l r):=by
 cases t with
 | leaf k a b n=>exact ⟨_,_,_,_,_,h.leaf⟩
 | not t=>exact ⟨_,_,_,_,_,h.not.2⟩
 | two k t u=>
  refine ⟨[],[],Int.ofNat 0,Int.ofNat (o+t.size-1),Int.ofNat (o+t.size+u.size-1),?_⟩
  rw [show o+(RT.two k t u).size-1=o+t.size+u.size by show o+(t.size+u.size+1)-1=_;omega]
  exact h.two.2.2
theorem zWZ {t:RT} (d:t.kd) {m:Int} (hm:m=0\/m=1\/m=2):((if t.rk=9 then (1:Int) else if t.rk=8 then 2 else if t.rk=7 then 3 else 4)<m+1)↔t.tg<m:=by
 cases t with
 | leaf k a b n=>
  have h:=d.1;have g:=d.2;show (if k=9 then (1:Int) else if k=8 then 2 else if k=7 then 3 else 4)<m+1↔(2:Int)<m
  rw [if_neg (by omega),if_neg (by omega),if_neg (by omega)]
  omega
 | not t=>
  show (3:Int)<m+1↔(2:Int)<m
  omega
 | two k t u=>
  show (if k=9 then (1:Int) else if k=8 then 2 else if k=7 then 3 else 4)<m+1↔(if k=9 then (0:Int) else if k=8 then 1 else 2)<m
  rcases d.1 with rfl | rfl
  ·rw [if_neg (by decide),if_pos rfl,if_neg (by decide),if_pos rfl];omega
  ·rw [if_pos rfl,if_pos rfl];omega
theorem zJk {es:List AV} {t:RT} {o d:Nat} {m:Int} (hm:m=0\/m=1\/m=2) (hs:Seg es t o) (g:t.kd) (hl:t.told.length<=9000000000000000000) (h:zFK d es (Int.ofNat (o+t.size-1))=some (.str t.told)):zDi (d+1) (Int.ofNat (o+t.size-1)) (m+1) es=some (.str (parT t.tg m t.told)):=by
 obtain ⟨a,b,n,l,r,k⟩:=RT.root hs;have m0:ze=9223372036854775807:=rfl;refine zi ?_
 rw [zPj];refine qk_s h (zC7 k (qk_i (zWB _) (Wp.ite (λ h=>Wp.gd ?_ (Wp.gd ?_ (Wp.mk ?_))) λ h=>Wp.mk ?_)))
 ·simp only [QT,Qj];omega
 ·simp only [QH,QT,Qj];omega
 ·unfold parT;rw [if_pos ((zWZ g hm).1 h)]
 ·unfold parT;rw [if_neg (λ j=>h ((zWZ g hm).2 j))]
theorem zRf {es:List AV} {M:Nat} (hM:M<=5000000):∀(t:RT) (o d:Nat),2*t.size<=d->t.size<=1000->Seg es t o->t.bd M->t.kd->zFK d es (Int.ofNat (o+t.size-1))=some (.str t.told):=by
 have m0:ze=9223372036854775807:=rfl;intro t
 induction t with
 | leaf k a b n=>
  intro o d I K hs hb g;have j:(RT.leaf k a b n).size=1:=rfl;obtain ⟨d,rfl⟩:∃e,d=e+1:=⟨d-1,by omega⟩
  refine zi ?_
  rw [zIX,j,show o+1-1=o by omega]
  refine zC7 hs.leaf ?_
  have r:1<=k:=g.1;have X:k<=6:=g.2;obtain ⟨B,q,E⟩:=hb;have z:=zWw n q E;have aa:=zSx n q E;rw [show (RT.leaf k a b n).told=zJb k a b n from rfl]
  unfold zJb;refine Wp.if (λ h=>Wp.mk ?_) λ T=>Wp.if (λ h=>Wp.gd ?_ (Wp.gd ?_ (Wp.mk ?_))) λ R=>Wp.if (λ h=>Wp.gd ?_ (Wp.gd ?_ (Wp.mk ?_))) λ Y=>Wp.if (λ h=>Wp.gd ?_ (qk_s z (Wp.gd ?_ (Wp.mk ?_)))) λ S=>Wp.if (λ h=>Wp.gd ?_ (qk_s z (Wp.gd ?_ (Wp.mk ?_)))) λ U=>Wp.if (λ h=>?_) λ h7=>Wp.if (λ h=>?_) λ h8=>Wp.if (λ h=>?_) λ h9=>Wp.mk ?_
  all_goals simp only [beq_iff_eq,beq_eq_false_iff_ne,ne_eq] at *
  all_goals first
   | (simp only [QH,QT,Qj];omega)
   | (subst h;simp;done)
   | (exfalso;omega)
   | (rw [if_neg T,if_neg R,if_neg Y,if_neg S,if_neg U])
 | not t ih=>
  intro o d I K hs hb g;have j:(RT.not t).size=t.size+1:=rfl;have:=t.size_pos;obtain ⟨d,rfl⟩:∃e,d=e+1+1:=⟨d-2,by omega⟩
  refine zi ?_
  rw [zIX,j,show o+(t.size+1)-1=o+t.size by omega]
  obtain ⟨C,D⟩:=hs.not;refine zC7 D ?_
  have hb:t.bd M:=hb;have hl:=zFg hb;have F:=zB5 t.tg 2 t.told;have O:t.size*(M+40)<=1000*5000040:=Nat.mul_le_mul (by omega) (by omega)
  have g:t.kd:=g;refine Wp.if (λ h=>by cases h) λ _=>Wp.if (λ h=>by cases h) λ _=>Wp.if (λ h=>by cases h) λ _=>Wp.if (λ h=>by cases h) λ _=>Wp.if (λ h=>by cases h) λ _=>Wp.if (λ _=>?_) λ h=>by cases h
  refine qk_s (zJk (m:=2) (.inr (.inr rfl)) C g (by omega) (ih o d (by omega) (by omega) C hb g)) (Wp.gd ?_ (Wp.mk rfl))
  simp only [QT,Qj];omega
 | two k t u H G=>
  intro o d I K hs hb g;have j:(RT.two k t u).size=t.size+u.size+1:=rfl;have:=t.size_pos;have:=u.size_pos;obtain ⟨d,rfl⟩:∃e,d=e+1+1:=⟨d-2,by omega⟩
  refine zi ?_
  rw [zIX,j,show o+(t.size+u.size+1)-1=o+t.size+u.size by omega]
  obtain ⟨C,D,s3⟩:=hs.two;refine zC7 s3 ?_
  obtain ⟨B,q⟩:=hb;obtain ⟨g,r,A⟩:=g;have ab:=zFg B;have F:=zFg q;have V:t.size*(M+40)<=1000*5000040:=Nat.mul_le_mul (by omega) (by omega)
  have W:u.size*(M+40)<=1000*5000040:=Nat.mul_le_mul (by omega) (by omega)
  have p1:=zB5 t.tg 1 t.told;have p2:=zB5 u.tg 2 u.told;have p3:=zB5 t.tg 0 t.told;have p4:=zB5 u.tg 1 u.told;have Q:=H o d (by omega) (by omega) C B r
  have J:=G (o+t.size) d (by omega) (by omega) D q A
  rcases g with rfl | rfl
  ·refine Wp.if (λ h=>by cases h) λ _=>Wp.if (λ h=>by cases h) λ _=>Wp.if (λ h=>by cases h) λ _=>Wp.if (λ h=>by cases h) λ _=>Wp.if (λ h=>by cases h) λ _=>Wp.if (λ h=>by cases h) λ _=>Wp.if (λ _=>?_) λ h=>by cases h
   refine qk_s (zJk (m:=1) (.inr (.inl rfl)) C r (by omega) Q) (Wp.gd ?_ (qk_s (zJk (m:=2) (.inr (.inr rfl)) D A (by omega) J) (Wp.gd ?_ (Wp.mk rfl))))
   all_goals simp only [QH,QT,Qj]
   all_goals omega
  ·refine Wp.if (λ h=>by cases h) λ _=>Wp.if (λ h=>by cases h) λ _=>Wp.if (λ h=>by cases h) λ _=>Wp.if (λ h=>by cases h) λ _=>Wp.if (λ h=>by cases h) λ _=>Wp.if (λ h=>by cases h) λ _=>Wp.if (λ h=>by cases h) λ _=>Wp.if (λ _=>?_) λ h=>by cases h
   refine qk_s (zJk (m:=0) (.inl rfl) C r (by omega) Q) (Wp.gd ?_ (qk_s (zJk (m:=1) (.inr (.inl rfl)) D A (by omega) J) (Wp.gd ?_ (Wp.mk rfl))))
   all_goals simp only [QH,QT,Qj]
   all_goals omega
theorem zQu {s:List Nat} {x:FA} {i dp n p q:Int} {l:List AV}:zEt s i dp n x.e x.f p q l=some (if x.ok=true then .qc [.agg [.ql 6 l],.agg [.int .i64 (Int.ofNat 0),.int .i64 (Int.ofNat 0)]] else .qc [.agg [.qa],.agg [.int .i64 x.e,.int .i64 x.f]]):=by
 have d:∀b:Bool,(match b with | true=>false | false=>true:Bool)=!b:=λ b=>by cases b <;> rfl
 refine zi ?_
 rw [zNX];refine Wp.if (λ h=>Wp.mk ?_) λ h=>Wp.mk ?_
 ·have h:(!x.ok)=true:=by
   rw [←d]
   revert h
   unfold FA.ok;cases (x.e==0&&x.f==0) <;> intro h <;> first | rfl | exact h
  rw [if_neg (λ g=>by rw [g] at h;cases h)]
 ·have h:(!x.ok)=false:=by
   rw [←d]
   revert h
   unfold FA.ok;cases (x.e==0&&x.f==0) <;> intro h <;> first | rfl | exact h
  rw [if_pos (by simpa using h)]
theorem zMH {s:List Nat} {x:FA} {i dp n p q:Int} {l:List AV} (hx:x.ok=false):zF0 s i dp n x.e x.f p q l=some (.qc [.agg [.qa],.agg [.int .i64 x.e,.int .i64 x.f]]):=by
 refine zi ?_
 rw [zJp];refine Wp.if (λ h=>?_) λ _=>?_
 ·have h:x.ok=true:=h;rw [hx] at h;cases h
 ·rw [zQu,if_neg (by rw [hx];decide)]
  exact Wp.mk rfl
theorem zM0 (s:List Nat) (h8:∀c∈s,c<256):zIf s=some (parR (zFs s)):=by
 refine zi ?_
 rw [zQd];unfold zFs;refine Wp.ite (λ h=>Wp.mk ?_) λ h=>?_
 ·rw [if_pos (by rw [qr] at h;omega)];rfl
 have hs:s.length<=1024:=by rw [qr] at h;omega
 have j:s.length<=65536:=by omega
 rw [if_neg (by omega)]
 obtain ⟨v,B,I⟩:=or_A j h8 FUEL [] 0 0 (Qn (zC (by omega))) ⟨QP _,by omega,QA _⟩
 rcases I.cases with ⟨i,n,t,q,rfl⟩ | ⟨e,f,q,k,y,i,G,E,K,D,rfl⟩ | ⟨y,i,E,K,q,C,H,J,rfl⟩
 ·rw [q];obtain ⟨g1,g2,g3,g4,g5⟩:=zNQ s 32 _ _ _ _ _ (QP _) (by omega) q
  have F:=zAM g2;have u:=t.size_pos;refine adI B (adU (zCL j ⟨0,0⟩ _ _ _ i g2) (Wp.lt (λ g=>?_) λ r=>?_))
  ·refine adU (zES ⟨0,0⟩ _ _ _ 5 _ _) ?_
   rw [FA.qt rfl,zMH (x:=⟨5,Int.ofNat (sk s i)⟩) (fa5 _)];show Wp _ λ v=>v=parR (if sk s i<s.length then .error (5,Int.ofNat (sk s i)) else if 1024<t.told.length then .error (3,Int.negSucc 0) else .ok t)
   rw [if_pos g];exact Wp.mk rfl
  ·show Wp _ λ v=>v=parR (if sk s i<s.length then .error (5,Int.ofNat (sk s i)) else if 1024<t.told.length then .error (3,Int.negSucc 0) else .ok t)
   rw [if_neg (by omega),zJp]
   refine Wp.if (λ _=>?_) λ h=>by cases h
   have z:([]++t.fl ([]:List AV).length:List AV).length=t.size:=by rw [List.nil_append,RT.fl_length]
   have d:=zRf (es:=[]++t.fl ([]:List AV).length) (M:=56) (by decide) t 0 FUEL (Qn (zC (by omega))) (by omega) (Seg.whole t) g5.bd.1 g5.kd
   rw [QR] at d;rw [z,zCk u (by omega)]
   refine qk_s d (Wp.ite (λ h=>adU (zES ⟨0,0⟩ _ _ _ 3 _ _) ?_) λ h=>?_)
   ·rw [if_pos (by rw [qr] at h;omega),FA.qt rfl,zQu (x:=⟨3,Int.negSucc 0⟩),if_neg (by decide)]
    exact Wp.mk rfl
   ·rw [if_neg (by rw [qr] at h;omega),zQu (x:=⟨0,0⟩),if_pos (show (FA.mk 0 0).ok=true from rfl)]
    exact Wp.mk rfl
 ·rw [q];have F:=zAM D;refine adI B (adU (zCL j ⟨e,f⟩ _ _ _ i D) (Wp.lt (λ g=>adU (zES ⟨e,f⟩ _ _ _ 5 _ _) ?_) λ r=>?_))
  ·rw [FA.qH k,zMH k];exact Wp.mk rfl
  ·rw [zMH (x:=⟨e,f⟩) k];exact Wp.mk rfl
 ·rw [q];have g:=zIS C;have A:=zJ9 (zKc C);refine adI B (adU (zCL j ⟨0,0⟩ _ _ _ i (by omega)) ?_)
  rw [A];refine Wp.lt (λ _=>adU (zES ⟨0,0⟩ _ _ _ 5 _ _) ?_) λ r=>absurd g (by omega)
  rw [FA.qt rfl,zMH (x:=⟨5,Int.ofNat i⟩) (fa5 _)];exact Wp.mk rfl
noncomputable instance:DecidableEq AV:=λ _ _=>Classical.propDecidable _
def NdL (es:List AV):Prop:=∀e∈es,∃k a b n l r,e=nd6 k a b n l r
theorem zJl:∀(t:RT) (o:Nat),NdL (t.fl o)
 | .leaf k a b n,o=>λ e he=>by rw [RT.fl,Qc] at he;exact ⟨_,_,_,_,_,_,he⟩
 | .not t,o=>λ e he=>by
  rw [RT.fl,QK,Qc] at he;rcases he with he | he
  ·exact zJl t o e he
  ·exact ⟨_,_,_,_,_,_,he⟩
 | .two k t u,o=>λ e he=>by
  rw [RT.fl,QK,QK,Qc] at he;rcases he with (he | he) | he
  ·exact zJl t o e he
  ·exact zJl u _ e he
  ·exact ⟨_,_,_,_,_,_,he⟩
theorem zW0 (k q n n' l h r d:Int) (a g b j:List Nat):(k==q&&(seqb a g&&(seqb b j&&(n==n'&&(l==h&&r==d)))))=decide (nd6 k a b n l r=nd6 q g j n' h d):=by
 rw [zK,zK,Bool.eq_iff_iff];simp
theorem zJc {es d:List AV} {i:Nat} (h1:i<es.length) (g:i<d.length):es.drop i=d.drop i↔es[i]=d[i]/\es.drop (i+1)=d.drop (i+1):=by
 rw [QZ h1,QZ g];exact List.cons_eq_cons
theorem zSF (es j:List AV) (h:NdL es) (h':NdL j) (hl:es.length<=2000000):zT es j=some (.bool (decide (es=j))):=by
 have loop:es.length=j.length->∀(n i:Nat),i<=es.length->es.length-i<n->zAA n es j (Int.ofNat es.length) (Int.ofNat i)=some (.bool (decide (es.drop i=j.drop i))):=by
  intro he n
  induction n with
  | zero=>intro i _ h;omega
  | succ n G=>
   intro i H I;refine zi ?_
   rw [zFS];refine Wp.lt (λ g=>?_) λ r=>Wp.mk ?_
   ·have d:i<j.length:=he▸g
    obtain ⟨k,a,b,m,p,q,C⟩:=h _ (Qq g);obtain ⟨z,u,t,B,D,E,A⟩:=h' _ (Qq d);refine zEG ((zAw g).trans (congrArg some C)) (zEG ((zAw d).trans (congrArg some A)) ?_)
    rw [zW0];refine Wp.if (λ hc=>Wp.mk ?_) λ hc=>?_
    ·have hc:(!decide (nd6 k a b m p q=nd6 z u t B D E))=true:=hc;rw [QG];rw [zJc g d,C,A];intro F;rw [QI F.1] at hc;cases hc
    ·have hc:(!decide (nd6 k a b m p q=nd6 z u t B D E))=false:=hc;rw [zc (by omega),G (i+1) g (by omega)]
     refine Wp.mk (congrArg AV.bool (decide_eq_decide.2 ?_))
     rw [zJc g d,C,A];have:nd6 k a b m p q=nd6 z u t B D E:=by simpa using hc
     exact ⟨λ h=>⟨this,h⟩,λ h=>h.2⟩
   ·rw [Qh r,Qh (by omega)];simp
 refine zi ?_
 rw [zGG];refine Wp.if (λ hc=>Wp.mk ?_) λ hc=>?_
 ·have hc:(!(Int.ofNat es.length==Int.ofNat j.length))=true:=hc;have hc:es.length≠j.length:=λ e=>by rw [e] at hc;simp at hc
  rw [QG λ e=>hc (congrArg _ e)]
 ·have hc:(!(Int.ofNat es.length==Int.ofNat j.length))=false:=hc;have hc:es.length=j.length:=by
   have:(Int.ofNat es.length==Int.ofNat j.length)=true:=by simpa using hc
   exact beqN.1 this
  have:=loop hc FUEL 0 (QP _) (zC (by omega))
  rw [List.drop_zero,List.drop_zero] at this;exact ⟨_,this,rfl⟩
theorem zP2 (es j:List AV) (h:NdL es) (h':NdL j) (hl:es.length<=2000000):zAX es j=some (.bool (decide (es=j))):=by
 have loop:es.length=j.length->∀(n i:Nat),i<=es.length->es.length-i<n->zB2 n (Int.ofNat i) es j=some (.bool (decide (es.drop i=j.drop i))):=by
  intro he n
  induction n with
  | zero=>intro i _ h;omega
  | succ n G=>
   intro i H I;refine zi ?_
   rw [zIG];refine Wp.lt (λ g=>?_) λ r=>Wp.mk ?_
   ·have d:i<j.length:=he▸g
    obtain ⟨k,a,b,m,p,q,C⟩:=h _ (Qq g);obtain ⟨z,u,t,B,D,E,A⟩:=h' _ (Qq d);refine zEG ((zAw g).trans (congrArg some C)) (zEG ((zAw d).trans (congrArg some A)) ?_)
    rw [zW0];refine Wp.if (λ hc=>Wp.mk ?_) λ hc=>?_
    ·have hc:(!decide (nd6 k a b m p q=nd6 z u t B D E))=true:=hc;rw [QG];rw [zJc g d,C,A];intro F;rw [QI F.1] at hc;cases hc
    ·have hc:(!decide (nd6 k a b m p q=nd6 z u t B D E))=false:=hc;rw [zc (by omega),G (i+1) g (by omega)]
     refine Wp.mk (congrArg AV.bool (decide_eq_decide.2 ?_))
     rw [zJc g d,C,A];have:nd6 k a b m p q=nd6 z u t B D E:=by simpa using hc
     exact ⟨λ h=>⟨this,h⟩,λ h=>h.2⟩
   ·rw [Qh r,Qh (by omega)];simp
 refine zi ?_
 rw [zJM];refine Wp.if (λ hc=>Wp.mk ?_) λ hc=>?_
 ·have hc:(!(Int.ofNat es.length==Int.ofNat j.length))=true:=hc;have hc:es.length≠j.length:=λ e=>by rw [e] at hc;simp at hc
  rw [QG λ e=>hc (congrArg _ e)]
 ·have hc:(!(Int.ofNat es.length==Int.ofNat j.length))=false:=hc;have hc:es.length=j.length:=by
   have:(Int.ofNat es.length==Int.ofNat j.length)=true:=by simpa using hc
   exact beqN.1 this
  have:=loop hc FUEL 0 (QP _) (zC (by omega))
  rw [List.drop_zero,List.drop_zero] at this;exact ⟨_,this,rfl⟩
def updF (f:Nat->Int) (a:Nat) (v:Int):Nat->Int:=λ j=>if j=a then v else f j
theorem zOl {f:Nat->Int} {a:Nat} {v:Int}:updF f a v a=v:=if_pos rfl
theorem zET {f:Nat->Int} {a j:Nat} {v:Int} (h:j≠a):updF f a v j=f j:=if_neg h
def UsI (us:List AV) (c:Nat->Int) (m:Nat):Prop:=us.length=m/\∀j,j<m->us[j]? = some (.int .i64 (c j))
theorem zRG {us:List AV} {j:Nat} {x:Int} (h:us[j]? = some (.int .i64 x)):ldE us (Int.toNat (Int.ofNat j)) 0 1 false=some (.int .i64 x):=by
 show (match us[j]? with | some e=>Go.Sy.part e.cells 0 1 false | none=>none)=_
 rw [h];rfl
theorem UsI.set {us:List AV} {c:Nat->Int} {m a:Nat} (h:UsI us c m) (k:a<m) (x:Int):UsI (us.set a (.int .i64 x)) (updF c a x) m:=by
 refine ⟨by rw [List.length_set];exact h.1,λ j d=>?_⟩
 by_cases e:j=a
 ·subst e;rw [zOl,List.getElem?_set_self (by rw [h.1];exact d)]
 ·rw [zET e,List.getElem?_set_ne (λ g=>e g.symm)]
  exact h.2 j d
section
variable {es us parts:List AV} {n27 n i x m:Nat} {c:Nat->Int} {P:AV->Prop}
theorem zQv (k:UsI us c m) {a:Nat} (hx:parts[x]? = some (.int .i64 (Int.ofNat a))) (r:x<5) (t:a<i) (z:i<=m) (hc:c a=0) (t23 t24:Int) (t22:List AV)
  (h:Wp (zCw n27 n es (Int.ofNat i) t22 t23 t24 (Int.ofNat parts.length) (Int.ofNat (x+1)) (us.set a (.int .i64 1)) parts) P):Wp (zCw n27 (n+1) es (Int.ofNat i) t22 t23 t24 (Int.ofNat parts.length) (Int.ofNat x) us parts) P:=by
 have d:x<parts.length:=(QD.1 hx).1;rw [zIj];refine Wp.lt (λ _=>zMy d (qk_i (zRG hx) (Wp.ite (λ j=>?_) λ h0=>Wp.ite (λ j=>?_) λ u=>?_))) λ q=>absurd d (by omega)
 ·rw [qr] at j;omega
 ·rw [qr,qr] at j;omega
 ·have g:a<us.length:=by rw [k.1];omega
  refine zMy g (qk_i (zRG (k.2 a (by omega))) (zMy g ?_))
  rw [zc (by omega),hc]
  exact h
theorem zSG (hx:x=parts.length) (d:i<1000) (t22:List AV) (t23:Int) (h:Wp (zCx n27 es t22 t23 (Int.ofNat (i+1)) us) P):Wp (zCw n27 (n+1) es (Int.ofNat i) t22 t23 (Int.ofNat i) (Int.ofNat parts.length) (Int.ofNat x) us parts) P:=by
 rw [zIj];refine Wp.lt (λ h=>absurd h (by omega)) λ _=>?_
 rw [zc (by omega)]
 exact h
theorem zUo:FUEL=1180591620717411303421+1+1+1:=zER
end
def After (c d:Nat->Int) (t:RT) (o:Nat):Prop:=(∀j,j<o->d j=c j)/\(∀j,o<=j->j<o+t.size-1->d j=1)/\∀j,o+t.size-1<=j->d j=0
theorem zUp {es:List AV} {P:AV->Prop} (af:es.length<=64):∀(t:RT) (o n:Nat) (us:List AV) (c:Nat->Int),Seg es t o->t.kd->o+t.size<=es.length->UsI us c es.length->(∀j,o<=j->c j=0) →
  (∀E M,UsI E M es.length->After c M t o->Wp (zCx n es es (Int.ofNat es.length) (Int.ofNat (o+t.size)) E) P)->Wp (zCx (n+t.size) es es (Int.ofNat es.length) (Int.ofNat o) us) P:=by
 intro t
 induction t with
 | leaf k a b m=>
  intro o n us c hs D q K hc h;have d:(RT.leaf k a b m).size=1:=rfl;have ac:1<=k:=D.1;have ae:k<=6:=D.2;rw [d] at q h ⊢;rw [zDF];refine Wp.lt (λ _=>zC7 hs.leaf (Wp.if (λ G=>?_) λ _=>Wp.if (λ G=>?_) λ _=>?_)) λ G=>by omega
  ·have:k=7:=by simpa using G
   omega
  ·have:k=8:=by simpa using G
   omega
  ·have e9:(k==9)=false:=by simp;omega
   rw [e9,zIM];refine Wp.if (λ h=>by cases h) λ _=>Wp.if (λ h=>by cases h) λ _=>Wp.if (λ h=>by cases h) λ _=>?_
   rw [zFR,zUo];refine zSG rfl (by omega) _ _ (h us c K ⟨λ j _=>rfl,λ j r I=>?_,λ j r=>hc j ?_⟩)
   ·rw [d] at I;omega
   ·rw [d] at r;omega
 | not t ih=>
  intro o n us c hs D q K hc h;have d:(RT.not t).size=t.size+1:=rfl;have aa:=t.size_pos;obtain ⟨U,T⟩:=hs.not;rw [d] at q;rw [d,show n+(t.size+1)=(n+1)+t.size by omega]
  refine ih o (n+1) us c U D (by omega) K hc λ E M J O=>?_
  rw [zDF];refine Wp.lt (λ _=>zC7 T (Wp.if (λ _=>Wp.if (λ h=>by cases h) λ _=>?_) λ h=>by cases h)) λ G=>by omega
  rw [zFR,zUo];refine zQv (parts:=[.int .i64 (Int.ofNat (o+t.size-1))]) (x:=0) J (a:=o+t.size-1) rfl (by omega) (by omega) (by omega) (O.2.2 _ (QA _)) _ _ _ ?_
  refine zSG rfl (by omega) _ _ (h _ (updF M (o+t.size-1) 1) (J.set (by omega) 1) ⟨λ j Q=>?_,λ j r I=>?_,λ j r=>?_⟩)
  ·rw [zET (by omega)];exact O.1 j Q
  ·rw [d] at I;by_cases e:j=o+t.size-1
   ·rw [e,zOl]
   ·rw [zET e];exact O.2.1 j r (by omega)
  ·rw [d] at r;rw [zET (by omega)];exact O.2.2 j (by omega)
 | two k t u V S=>
  intro o n us c hs D q K hc h;have d:(RT.two k t u).size=t.size+u.size+1:=rfl;have ab:=t.size_pos;have ad:=u.size_pos;obtain ⟨U,T,s3⟩:=hs.two;rw [d] at q;rw [show o+(RT.two k t u).size=o+t.size+u.size+1 by omega] at h
  rw [d,show n+(t.size+u.size+1)=(n+1+u.size)+t.size by omega]
  refine V o (n+1+u.size) us c U D.2.1 (by omega) K hc λ W c1 R C=>?_
  refine S (o+t.size) (n+1) W c1 T D.2.2 (by omega) R (λ j Q=>C.2.2 j (by omega)) λ H c2 F g=>?_
  rw [zDF];have two:Wp (zDV n es (Int.ofNat (o+t.size+u.size)) es (Int.ofNat es.length) (Int.ofNat (o+t.size+u.size)) H [.int .i64 (Int.ofNat (o+t.size-1)),.int .i64 (Int.ofNat (o+t.size+u.size-1))]) P:=by
   rw [zFR,zUo];have c21:c2 (o+t.size-1)=0:=by rw [g.1 _ (by omega)];exact C.2.2 _ (QA _)
   have Y:c2 (o+t.size+u.size-1)=0:=g.2.2 _ (QA _);refine zQv (parts:=[.int .i64 (Int.ofNat (o+t.size-1)),.int .i64 (Int.ofNat (o+t.size+u.size-1))]) (x:=0) F (a:=o+t.size-1) rfl (by omega) (by omega) (by omega) c21 _ _ _ ?_
   refine zQv (parts:=[.int .i64 (Int.ofNat (o+t.size-1)),.int .i64 (Int.ofNat (o+t.size+u.size-1))]) (x:=1) (F.set (by omega) 1) (a:=o+t.size+u.size-1) rfl (by omega) (by omega) (by omega) (by rw [zET (by omega)];exact Y) _ _ _ ?_
   refine zSG rfl (by omega) _ _ (h _ (updF (updF c2 (o+t.size-1) 1) (o+t.size+u.size-1) 1) ((F.set (by omega) 1).set (by omega) 1) ⟨λ j Q=>?_,λ j r I=>?_,λ j r=>?_⟩)
   ·rw [zET (by omega),zET (by omega),g.1 j (by omega)];exact C.1 j Q
   ·rw [d] at I;by_cases e1:j=o+t.size+u.size-1
    ·rw [e1,zOl]
    ·rw [zET e1];by_cases e2:j=o+t.size-1
     ·rw [e2,zOl]
     ·rw [zET e2];by_cases e3:j<o+t.size
      ·rw [g.1 j e3];exact C.2.1 j r (by omega)
      ·exact g.2.1 j (by omega) (by omega)
   ·rw [d] at r;rw [zET (by omega),zET (by omega)];exact g.2.2 j (by omega)
  have j2:∀(A B:List Nat) (x y z:Int),x=Int.ofNat 0->y=Int.ofNat (o+t.size-1)->z=Int.ofNat (o+t.size+u.size-1)->Wp (zFl n es (Int.ofNat (o+t.size+u.size)) es (Int.ofNat es.length) (Int.ofNat (o+t.size+u.size)) true k A B x y z H []) P:=λ A B x y z hx hy X=>by
   subst hy;subst X;rw [zIM];exact Wp.if (λ _=>two) λ h=>by cases h
  refine Wp.lt (λ _=>zC7 s3 ?_) λ G=>by omega
  rcases D.1 with rfl | rfl
  ·exact Wp.if (λ h=>by cases h) λ _=>Wp.if (λ _=>j2 _ _ _ _ _ rfl rfl rfl) λ h=>by cases h
  ·exact Wp.if (λ h=>by cases h) λ _=>Wp.if (λ h=>by cases h) λ _=>j2 _ _ _ _ _ rfl rfl rfl
theorem zVI (t:RT) (F:t.kd) (A:t.size<=64):zJA (t.fl 0)=some (.bool true):=by
 have hl:(t.fl 0).length=t.size:=t.fl_length 0;have q:=t.size_pos;refine zi ?_
 rw [zKY,hl];refine Wp.ite (λ h=>?_) λ _=>Wp.ite (λ h=>?_) λ _=>?_
 ·rw [qr] at h;omega
 ·rw [qr] at h;omega
 rw [zNa,hl];have z:Int.toNat (Int.ofNat t.size)=t.size:=rfl;refine Wp.gd ⟨QV _,Int.le_refl _,?_,?_⟩ ?_
 ·rw [z];unfold zd;omega
 ·rw [z];unfold zd;omega
 rw [z];obtain ⟨N,H⟩:∃N,FUEL=(N+1)+t.size:=⟨FUEL-t.size-1,by have:=zC (n:=1000) (by omega);omega⟩
 rw [H];have:=zUp (es:=t.fl 0) (P:=λ v=>v=.bool true) (by rw [hl];exact A) t 0 (N+1) (List.replicate t.size (.int .i64 0)) (λ _=>0) (Seg.whole t) F (by rw [hl];omega) ⟨by rw [hl,List.length_replicate],λ j B=>?_⟩ (λ _ _=>rfl) λ r I d C=>?_
 ·rw [hl] at this;exact this
 ·rw [hl] at B;exact QD.2 ⟨by rw [List.length_replicate];exact B,by rw [List.getElem_replicate]⟩
 ·rw [hl] at d ⊢;rw [zDF];refine Wp.lt (λ h=>by omega) λ _=>?_
  have u:∀(n i:Nat),i<=t.size->t.size-i<n->Wp (zDu n (t.fl 0) (Int.ofNat t.size) (Int.ofNat i) r) λ v=>v=.bool true:=by
   intro n
   induction n with
   | zero=>intro i _ h;omega
   | succ n D=>
    intro i J K;have k:wrapx .i64 (Int.ofNat t.size-1)=Int.ofNat (t.size-1):=zCk q (by omega)
    rw [zMQ,hl,d.1,k];refine Wp.lt (λ g=>zMy g (qk_i (zRG (d.2 i g)) ?_)) λ E=>zMy (by omega) (qk_i (zRG (d.2 _ (by omega))) (Wp.mk ?_))
    ·rw [zc (by omega)]
     refine Wp.lt (λ G=>Wp.if (λ h=>?_) λ _=>D (i+1) g (by omega)) λ _=>D (i+1) g (by omega)
     rw [C.2.1 i (QP _) (by omega)] at h
     cases h
    ·rw [C.2.2 (t.size-1) (by omega)];rfl
  rw [d.1];exact u FUEL 0 (QP _) (zC (by omega))
theorem zMI {s:List Nat} (h8:∀c∈s,c<256) {e f:Int} (h:zFs s=.error (e,f)):(e==0&&f==0)=false:=by
 unfold zFs at h;split at h
 ·cases h;rfl
 rename_i hl;have g:s.length<=65536:=by omega
 obtain ⟨v,z,k⟩:=or_A g h8 FUEL [] 0 0 (Qn (zC (by omega))) ⟨QP _,by omega,QA _⟩
 rcases k.cases with ⟨i,n,t,d,_⟩ | ⟨r,u,d,j,_⟩ | ⟨y,i,q,A,d,_⟩
 ·rw [d] at h;simp only at h;split at h
  ·cases h;rfl
  ·split at h
   ·cases h;rfl
   ·cases h
 ·rw [d] at h;cases h;exact j
 ·rw [d] at h;cases h;rfl
def RT.by (f:Nat->Prop):RT->Prop
 | .leaf k a b n=>(∀c∈a,f c)/\∀c∈b,f c
 | .not t=>t.by f
 | .two k t u=>t.by f/\u.by f
theorem zQw {c:Nat} (h:namB c=true):okQ' c:=by
 unfold namB lowB digB at h;simp at h;unfold okQ';omega
theorem zX6 {c:Nat} (h:wrdB c=true):okQ' c:=by
 have h:=QS h;unfold okQ';omega
theorem RT.wf.by {t:RT} (h:t.wf):t.by okQ':=by
 induction t with
 | leaf k a b n=>
  rcases h with ⟨_,rfl,rfl,_⟩ | ⟨g,_,⟨_,q,_⟩ | ⟨_,rfl,_⟩ | ⟨_,rfl,_⟩⟩
  ·exact ⟨λ c h=>(by cases h),λ c h=>(by cases h)⟩
  ·exact ⟨λ c hc=>zQw (g.2.2 c hc),λ c hc=>zX6 (q.2.2 c hc)⟩
  ·exact ⟨λ c hc=>zQw (g.2.2 c hc),λ c h=>(by cases h)⟩
  ·exact ⟨λ c hc=>zQw (g.2.2 c hc),λ c h=>(by cases h)⟩
 | not t r=>exact r h
 | two k t u j d=>exact ⟨j h.2.1,d h.2.2⟩
theorem zX7 (n:Int):okS (decI n):=by
 unfold decI Lib.itoa;split
 ·intro c hc;rcases QJ.1 hc with rfl | hc
  ·decide
  ·exact zQ8 _ c hc
 ·exact zQ8 _
theorem zOm {f:Nat->Prop} (d:∀c,okQ' c->f c):∀{t:RT},t.by f->∀c∈t.told,f c
 | .leaf k a b n,h=>λ c hc=>by
  have A:∀c∈decI n,f c:=λ c hc=>d c (zX7 n c hc)
  have hl:∀l:List Nat,l.all (λ c=>decide (okQ' c))=true->∀c∈l,f c:=λ l hl c hc=>d c (QS (QF.1 hl c hc))
  have app:∀{x y:List Nat},(∀c∈x,f c)->(∀c∈y,f c)->∀c∈x++y,f c:=λ z r c hc=>(QK.1 hc).elim (z c) (r c)
  have hc:c∈zJb k a b n:=hc;unfold zJb at hc;split at hc
  ·exact hl _ rfl c hc
  split at hc
  ·exact app (app h.1 (hl _ rfl)) h.2 c hc
  split at hc
  ·exact app (app h.1 (hl _ rfl)) h.2 c hc
  split at hc
  ·exact app (app h.1 (hl _ rfl)) A c hc
  split at hc
  ·exact app (app h.1 (hl _ rfl)) A c hc
  ·exact h.1 c hc
 | .not t,h=>by
  have hl:∀l:List Nat,l.all (λ c=>decide (okQ' c))=true->∀c∈l,f c:=λ l hl c hc=>d c (QS (QF.1 hl c hc))
  have app:∀{x y:List Nat},(∀c∈x,f c)->(∀c∈y,f c)->∀c∈x++y,f c:=λ z r c hc=>(QK.1 hc).elim (z c) (r c)
  have j:∀(g m:Int) (w:List Nat),(∀c∈w,f c)->∀c∈parT g m w,f c:=λ g m w q=>by
   unfold parT;split
   ·exact app (app (hl _ rfl) q) (hl _ rfl)
   ·exact q
  exact app (hl _ rfl) (j _ _ _ (zOm (t:=t) d h))
 | .two k t u,h=>by
  have hl:∀l:List Nat,l.all (λ c=>decide (okQ' c))=true->∀c∈l,f c:=λ l hl c hc=>d c (QS (QF.1 hl c hc))
  have app:∀{x y:List Nat},(∀c∈x,f c)->(∀c∈y,f c)->∀c∈x++y,f c:=λ z r c hc=>(QK.1 hc).elim (z c) (r c)
  have j:∀(g m:Int) (w:List Nat),(∀c∈w,f c)->∀c∈parT g m w,f c:=λ g m w q=>by
   unfold parT;split
   ·exact app (app (hl _ rfl) q) (hl _ rfl)
   ·exact q
  have C:=zOm (t:=t) d h.1;have B:=zOm (t:=u) d h.2;rw [RT.told];split
  ·exact app (app (j _ _ _ C) (hl _ rfl)) (j _ _ _ B)
  ·exact app (app (j _ _ _ C) (hl _ rfl)) (j _ _ _ B)
theorem RT.wf.h8 {t:RT} (h:t.wf):∀c∈t.told,c<256:=λ c hc=>by
 have:=zOm (f:=okQ') (λ c h=>h) h.by c hc
 have:=this.2.1;omega
noncomputable def chkR (t:RT):Int:=match zFs t.told with
 | .ok u=>if u.fl 0=t.fl 0 then 0 else 2
 | .error _=>2
theorem zRq (t:RT) (g:t.wf) (k:t.size<=64):zEW (t.fl 0)=some (.int .i64 (chkR t)):=by
 have hl:(t.fl 0).length=t.size:=t.fl_length 0;have j:=t.size_pos;refine zi ?_
 rw [zLw];refine qk_b (zVI t g.kd k) (Wp.if (λ h=>by cases h) λ _=>?_)
 have d:=zRf (es:=t.fl 0) (M:=56) (by decide) t 0 FUEL (Qn (zC (by omega))) (by omega) (Seg.whole t) g.bd.1 g.kd
 rw [QR] at d;rw [hl,zCk j (by omega)]
 refine qk_s d ?_
 rw [zM0 _ g.h8];unfold chkR;cases hp:zFs t.told with
 | error e=>
  obtain ⟨e,f⟩:=e;have he:=zMI g.h8 hp;show Wp (br (!(e==0&&f==0)) _ _) _
  rw [he];exact Wp.mk rfl
 | ok u=>
  obtain ⟨z,r,q⟩:=zNR hp;show Wp (dK true [K.b] (zT (u.fl 0) (t.fl 0)) _) _
  refine qk_b (zSF _ _ (zJl u 0) (zJl t 0) (by rw [RT.fl_length];omega)) (Wp.if (λ h=>Wp.mk ?_) λ h=>Wp.mk ?_)
  ·show _=AV.int .i64 (if u.fl 0=t.fl 0 then 0 else 2)
   rw [if_neg (by simpa using h)];rfl
  ·show _=AV.int .i64 (if u.fl 0=t.fl 0 then 0 else 2)
   rw [if_pos (by simpa using h)];rfl
end Go.Proofs.YtdeeimaahdgeaaaGreatDoor.spec
namespace Go.Proofs.YtdeeimaahdgeaaaGreatDoor.spec
open Go Go.Sy
variable [MX]
def zUq (a:List Nat):Bool:=a.all wrdB&&decide (1<=a.length/\a.length<=32)
theorem zWC (a:List Nat) (hl:a.length<=2000000):zEf a=some (.bool (zUq a)):=by
 have loop:∀(n i:Nat),i<=a.length->a.length-i<n->zB1 n a (Int.ofNat i)=some (.bool ((a.drop i).all wrdB&&decide (1<=a.length/\a.length<=32))):=by
  intro n
  induction n with
  | zero=>intro i _ h;omega
  | succ n j=>
   intro i k q;refine zi ?_
   rw [zIF];refine Wp.lt (λ d=>Wp.bd (R:=λ c=>c=a[i]) ⟨_,zAw d,rfl⟩ λ c hc=>qk_b (zKH c) ?_) λ g=>Wp.ite (λ h=>Wp.mk ?_) λ h=>Wp.mk ?_
   ·subst hc;rw [QZ d,QW];refine Wp.if (λ h=>Wp.mk ?_) λ h=>?_
    ·have:wrdB a[i]=false:=by simpa using h
     rw [this];rfl
    ·have:wrdB a[i]=true:=by simpa using h
     rw [zc (by omega),j (i+1) d (by omega),this]
     exact Wp.mk rfl
   ·rw [Qh g];rw [qr] at h ⊢;show _=AV.bool (decide (1<=a.length/\a.length<=32))
    exact congrArg AV.bool (decide_eq_decide.2 (by omega))
   ·rw [Qh g];rw [qr] at h;show _=AV.bool (decide (1<=a.length/\a.length<=32))
    rw [QG (by omega)]
 have:=loop FUEL 0 (QP _) (zC (by omega))
 rw [zJL];exact this
theorem zWD {m:Nat} {a:List Nat} (h:zL2 m a):zAN m a=true:=by
 unfold zAN;rw [QI h.1,h.2.1,QF.2 h.2.2];rfl
theorem zWE {a:List Nat} (h:zSr a):zUq a=true:=by
 unfold zUq;have:1<=a.length:=List.length_pos_iff.2 h.1;rw [QF.2 h.2.2,QI ⟨this,h.2.1⟩];rfl
theorem zUr {k:Int} {a b:List Nat} {n:Int} (h:zVv k a b n):zBt k a b n (Int.negSucc 0) (Int.negSucc 0)=some (.bool true):=by
 have z:∀d:Bool,zBQ d k a b n (Int.negSucc 0) (Int.negSucc 0)=zBP d true k a b n (Int.negSucc 0) (Int.negSucc 0):=λ d=>by
  rw [zEA];rfl
 refine zi ?_
 rw [zFa];rcases h with ⟨rfl,rfl,rfl,rfl⟩ | ⟨t,A,B⟩
 ·refine qk_b (zKJ [] 24 (by decide)) (Wp.if (λ h=>by cases h) λ _=>?_)
  rw [z,zCt];exact Wp.if (λ _=>Wp.if (λ _=>Wp.if (λ _=>Wp.if (λ _=>Wp.mk rfl) λ h=>by cases h) λ h=>by cases h) λ h=>by cases h) λ h=>by cases h
 ·have hl:a.length<=24:=t.1;refine qk_b (zKJ a 24 (by omega)) ?_
  rw [zWD t];have q:(!seqb a [97,110,121])=true:=by rw [zK,QG A];rfl
  refine Wp.if (λ _=>?_) λ h=>by cases h
  rw [q,z,zCt];rcases B with ⟨j,hb,rfl⟩ | ⟨j,rfl,u⟩ | ⟨rfl,rfl,rfl⟩
  ·have g:Wp (zAm true true k true k a b 0 (Int.negSucc 0) (Int.negSucc 0)) λ v=>v=.bool true:=by
    rw [zBf];refine Wp.if (λ _=>Wp.if (λ _=>Wp.if (λ _=>qk_b (zWC b (by have:=hb.2.1;omega)) ?_) λ h=>by cases h) λ h=>by cases h) λ h=>by cases h
    rw [zWE hb];exact Wp.if (λ _=>Wp.mk rfl) λ h=>by cases h
   rcases j with rfl | rfl
   ·exact Wp.if (λ h=>by cases h) λ _=>Wp.if (λ _=>g) λ h=>by cases h
   ·exact Wp.if (λ h=>by cases h) λ _=>Wp.if (λ h=>by cases h) λ _=>g
  ·have r:Wp (zAV true true k true k a [] n (Int.negSucc 0) (Int.negSucc 0)) λ v=>v=.bool true:=by
    rw [zCs];refine Wp.if (λ _=>Wp.if (λ _=>Wp.if (λ _=>Wp.if (λ _=>Wp.ite (λ _=>Wp.mk ?_) λ h=>absurd u.1 h) λ h=>by cases h) λ h=>by cases h) λ h=>by cases h) λ h=>by cases h
    rw [QI u.2]
   have g:Wp (zAm true true k false k a [] n (Int.negSucc 0) (Int.negSucc 0)) λ v=>v=.bool true:=by
    rw [zBf];rcases j with rfl | rfl
    ·exact Wp.if (λ h=>by cases h) λ _=>Wp.if (λ _=>r) λ h=>by cases h
    ·exact Wp.if (λ h=>by cases h) λ _=>Wp.if (λ h=>by cases h) λ _=>r
   rcases j with rfl | rfl
   ·exact Wp.if (λ h=>by cases h) λ _=>Wp.if (λ h=>by cases h) λ _=>g
   ·exact Wp.if (λ h=>by cases h) λ _=>Wp.if (λ h=>by cases h) λ _=>g
  ·refine Wp.if (λ h=>by cases h) λ _=>Wp.if (λ h=>by cases h) λ _=>?_
   rw [zBf];refine Wp.if (λ h=>by cases h) λ _=>Wp.if (λ h=>by cases h) λ _=>?_
   rw [zCs];exact Wp.if (λ h=>by cases h) λ _=>Wp.if (λ _=>Wp.if (λ _=>Wp.if (λ _=>Wp.if (λ _=>Wp.mk rfl) λ h=>by cases h) λ h=>by cases h) λ h=>by cases h) λ h=>by cases h
theorem zSH {k:Int} {p:Nat} {q:Int} (d:k=7/\q=Int.negSucc 0\/(k=8\/k=9)/\∃b:Nat,q=Int.ofNat b):zBt k [] [] (Int.ofNat 0) (Int.ofNat p) q=some (.bool true):=by
 refine zi ?_
 rw [zFa];refine qk_b (zKJ [] 24 (by decide)) (Wp.if (λ h=>by cases h) λ _=>?_)
 rw [zEA];refine Wp.if (λ h=>by cases h) λ _=>?_
 rw [zCt];have g:Wp (zBO true k [] [] (Int.ofNat 0) (Int.ofNat p) q) λ v=>v=.bool true:=by
  rw [zIq];exact Wp.if (λ _=>Wp.if (λ _=>Wp.if (λ _=>Wp.mk rfl) λ h=>by cases h) λ h=>by cases h) λ h=>by cases h
 have r:Wp (zAm false false k false k [] [] (Int.ofNat 0) (Int.ofNat p) q) λ v=>v=.bool true:=by
  rw [zBf];have j:Wp (zAV false false k false k [] [] (Int.ofNat 0) (Int.ofNat p) q) λ v=>v=.bool true:=by
   rw [zCs];rcases d with ⟨rfl,rfl⟩ | ⟨rfl | rfl,_⟩
   ·exact Wp.if (λ h=>by cases h) λ _=>Wp.if (λ h=>by cases h) λ _=>Wp.if (λ _=>Wp.if (λ _=>Wp.if (λ _=>Wp.if (λ _=>Wp.mk rfl) λ h=>by cases h) λ h=>by cases h) λ h=>by cases h) λ h=>by cases h
   ·exact Wp.if (λ h=>by cases h) λ _=>Wp.if (λ h=>by cases h) λ _=>Wp.if (λ h=>by cases h) λ _=>Wp.if (λ _=>g) λ h=>by cases h
   ·exact Wp.if (λ h=>by cases h) λ _=>Wp.if (λ h=>by cases h) λ _=>Wp.if (λ h=>by cases h) λ _=>Wp.if (λ h=>by cases h) λ _=>g
  rcases d with ⟨rfl,rfl⟩ | ⟨rfl | rfl,_⟩ <;> exact Wp.if (λ h=>by cases h) λ _=>Wp.if (λ h=>by cases h) λ _=>j
 rcases d with ⟨rfl,rfl⟩ | ⟨rfl | rfl,_⟩ <;> exact Wp.if (λ h=>by cases h) λ _=>Wp.if (λ h=>by cases h) λ _=>r
def zYT (i:Nat) (v:AV):Prop:=∃k a b n l r,v=nd6 k a b n l r/\zBt k a b n l r=some (.bool true)/\-1<=l/\l<i/\-1<=r/\r<i/\(7<=k->0<=l)/\(8<=k->0<=r)
theorem zOn:∀{t:RT} {es:List AV} {o:Nat},t.wf->Seg es t o->∀j,j<t.size->∃v,es[o+j]? = some v/\zYT (o+j) v
 | .leaf k a b n,es,o,d,hs,j,g=>by
  have g:j<1:=g;obtain rfl:j=0:=by omega
  have B:=(RT.wf.kd (t:=.leaf k a b n) d).2;exact ⟨_,hs.leaf,_,_,_,_,_,_,rfl,zUr d,by decide,by rw [show Int.negSucc 0=-1 from rfl];omega,by decide,by rw [show Int.negSucc 0=-1 from rfl];omega,λ h=>by omega,λ h=>by omega⟩
 | .not t,es,o,d,hs,j,g=>by
  obtain ⟨r,q⟩:=hs.not;have g:j<t.size+1:=g;have:=t.size_pos;by_cases h:j<t.size
  ·exact zOn (t:=t) d r j h
  ·obtain rfl:j=t.size:=by omega
   refine ⟨_,q,_,_,_,_,_,_,rfl,zSH (.inl ⟨rfl,rfl⟩),?_,?_,by decide,?_,λ _=>QV _,λ h=>by omega⟩
   ·rw [qr];omega
   ·rw [qr];omega
   ·rw [show Int.negSucc 0=-1 from rfl];omega
 | .two k t u,es,o,d,hs,j,g=>by
  obtain ⟨r,q,z⟩:=hs.two;have g:j<t.size+u.size+1:=g;have:=t.size_pos;have:=u.size_pos;by_cases h:j<t.size
  ·exact zOn (t:=t) d.2.1 r j h
  ·by_cases A:j<t.size+u.size
   ·have:=zOn (t:=u) d.2.2 q (j-t.size) (by omega)
    rwa [show o+t.size+(j-t.size)=o+j by omega] at this
   ·obtain rfl:j=t.size+u.size:=by omega
    rw [←Nat.add_assoc];refine ⟨_,z,_,_,_,_,_,_,rfl,zSH (.inr ⟨d.1,_,rfl⟩),?_,?_,?_,?_,λ _=>QV _,λ h=>QV _⟩ <;> rw [qr] <;> omega
theorem zWF {es:List AV}:∀(t:RT) (o d:Nat),t.size<=d->t.size<=64->Seg es t o->zBF d es (Int.ofNat (o+t.size-1))=some (.int .i64 (Int.ofNat t.size)):=by
 intro t
 induction t with
 | leaf k a b n=>
  intro o d B C hs;have g:(RT.leaf k a b n).size=1:=rfl;obtain ⟨d,rfl⟩:∃e,d=e+1:=⟨d-1,by omega⟩
  refine zi ?_
  rw [zDr,g,show o+1-1=o by omega]
  refine zC7 hs.leaf (Wp.ite (λ h=>by exact absurd h (by decide)) λ _=>?_)
  rw [zCG];refine zC7 hs.leaf (Wp.ite (λ h=>by exact absurd h (by decide)) λ _=>?_)
  rw [zCF];refine Wp.if (λ h=>by cases h) λ _=>?_
  rw [zCE];exact Wp.mk rfl
 | not t D=>
  intro o d B C hs;have g:(RT.not t).size=t.size+1:=rfl;obtain ⟨d,rfl⟩:∃e,d=e+1:=⟨d-1,by omega⟩
  refine zi ?_
  obtain ⟨z,j⟩:=hs.not;rw [zDr,g,show o+(t.size+1)-1=o+t.size by omega]
  refine zC7 j (Wp.ite (λ _=>zC7 j (qk_i (D o d (by omega) (by omega) z) ?_)) λ h=>by exact absurd (QV _) h)
  rw [show wrapx .i64 (Int.ofNat 1+Int.ofNat t.size)=Int.ofNat (t.size+1) by rw [zL (by rw [qr,qr];omega) (by rw [qr,qr];omega),qr,qr,qr];omega]
  rw [zCG];refine zC7 j (Wp.ite (λ h=>by exact absurd h (by decide)) λ _=>?_)
  rw [zCF];refine Wp.if (λ h=>by cases h) λ _=>?_
  rw [zCE];exact Wp.mk rfl
 | two k t u A r=>
  intro o d B C hs;have g:(RT.two k t u).size=t.size+u.size+1:=rfl;have:=t.size_pos;have:=u.size_pos;obtain ⟨d,rfl⟩:∃e,d=e+1:=⟨d-1,by omega⟩
  refine zi ?_
  obtain ⟨z,j,q⟩:=hs.two;rw [zDr,g,show o+(t.size+u.size+1)-1=o+t.size+u.size by omega]
  refine zC7 q (Wp.ite (λ _=>zC7 q (qk_i (A o d (by omega) (by omega) z) ?_)) λ h=>by exact absurd (QV _) h)
  rw [show wrapx .i64 (Int.ofNat 1+Int.ofNat t.size)=Int.ofNat (t.size+1) by rw [zL (by rw [qr,qr];omega) (by rw [qr,qr];omega),qr,qr,qr];omega]
  rw [zCG];refine zC7 q (Wp.ite (λ _=>?_) λ h=>by exact absurd (QV _) h)
  rw [QI (show Int.ofNat (t.size+1)<=64 by rw [qr];omega),zCF]
  refine Wp.if (λ _=>zC7 q (qk_i (r (o+t.size) d (by omega) (by omega) j) ?_)) λ h=>by cases h
  rw [zCE];refine Wp.mk ?_
  rw [zL (by rw [qr,qr];omega) (by rw [qr,qr];omega),qr,qr,qr]
  congr 1;omega
theorem zSI (t:RT) (z:t.wf) (B:t.size<=64):zAf (t.fl 0)=some (.int .i64 (chkR t)):=by
 have hl:(t.fl 0).length=t.size:=t.fl_length 0;have q:=t.size_pos;have loop:∀(n i:Nat),i<=t.size->t.size-i<n->Wp (zW n (Int.ofNat t.size) (Int.ofNat i) (t.fl 0)) λ v=>v=.int .i64 (chkR t):=by
  intro n
  induction n with
  | zero=>intro i _ h;omega
  | succ n O=>
   intro i U V;rw [zHW];refine Wp.lt (λ j=>?_) λ F=>?_
   ·obtain ⟨v,E,k,a,b,m,l,r,rfl,A,W,J,Q,I,G,D⟩:=zOn z (Seg.whole t) i j;rw [QR] at E J I;have next:=O (i+1) j (by omega)
    rw [←zc (by omega)] at next
    refine zC7 E (qk_b A (Wp.if (λ h=>by cases h) λ _=>Wp.ite (λ h=>?_) λ _=>Wp.ite (λ h=>?_) λ _=>Wp.ite (λ h=>?_) λ _=>Wp.ite (λ h=>?_) λ _=>Wp.ite (λ H=>Wp.ite (λ h=>?_) λ _=>Wp.ite (λ h8=>Wp.ite (λ h=>?_) λ _=>next) λ _=>next) λ _=>Wp.ite (λ h8=>Wp.ite (λ h=>?_) λ _=>next) λ _=>next))
    ·omega
    ·rw [qr] at h;omega
    ·omega
    ·rw [qr] at h;omega
    ·have:=G H;omega
    ·have:=D h8;omega
    ·have:=D h8;omega
   ·have g:=zSz (es:=t.fl 0) (M:=56) (by decide) t 0 FUEL 0 (Qn (zC (by omega))) (by omega) (Seg.whole t) z.bd.1 z.bd.2 z.kd
    have d:=zWF (es:=t.fl 0) t 0 FUEL (Qn (zC (by omega))) B (Seg.whole t)
    have C:parT t.tg 0 t.told=t.told:=by
     unfold parT;have:¬t.tg<0:=by
      unfold RT.tg;split
      ·repeat' split
       all_goals decide
      ·decide
     rw [if_neg this]
    rw [C,QR] at g;rw [QR] at d;rw [zCk q (by omega)]
    refine qk_i d (Wp.if (λ h=>?_) λ _=>qk_s g ?_)
    ·have h:(!(Int.ofNat t.size==Int.ofNat t.size))=true:=h;simp at h
    rw [zRb];unfold chkR;cases hp:zFs t.told with
    | error e=>
     obtain ⟨e,f⟩:=e;have he:=zMI z.h8 hp;show Wp (br (!(e==0&&f==0)) _ _) _
     rw [he];exact Wp.mk rfl
    | ok u=>
     obtain ⟨S,R,T⟩:=zNR hp;show Wp (dK true [K.b] (zAX (u.fl 0) (t.fl 0)) _) _
     refine qk_b (zP2 _ _ (zJl u 0) (zJl t 0) (by rw [RT.fl_length];omega)) (Wp.if (λ h=>Wp.mk ?_) λ h=>Wp.mk ?_)
     ·show _=AV.int .i64 (if u.fl 0=t.fl 0 then 0 else 2)
      rw [if_neg (by simpa using h)];rfl
     ·show _=AV.int .i64 (if u.fl 0=t.fl 0 then 0 else 2)
      rw [if_pos (by simpa using h)];rfl
 refine zi ?_
 rw [zFb,hl];refine Wp.ite (λ h=>?_) λ _=>Wp.ite (λ h=>?_) λ _=>?_
 ·rw [qr] at h;omega
 ·rw [qr] at h;omega
 rw [zIr];exact loop FUEL 0 (QP _) (zC (by omega))
theorem zVJ {β:Type} {p:Prop} [Decidable p] {x y:Option β}:br (decide p) x y=if p then x else y:=by
 by_cases h:p
 ·rw [QI h,if_pos h];rfl
 ·rw [QG h,if_neg h];rfl
theorem zL5 (s:List Nat) (hl:s.length<=2000000):zCT s=some (.bool (zAN 16 s)):=by
 have loop:∀(n i:Nat),i<=s.length->s.length-i<n->zGC n (Int.ofNat (bytes s).length) (Int.ofNat i) (bytes s)=some (.bool ((s.drop i).all namB)):=by
  intro n
  induction n with
  | zero=>intro i _ h;omega
  | succ n z=>
   intro i A B;refine zi ?_
   rw [zOt];rw [QO];refine Wp.lt (λ h=>zMy h (qk_u (zVm h) ?_)) λ j=>Wp.mk ?_
   ·have next:∀b:Bool,b=!namB s[i]->Wp (zBu n (Int.ofNat s.length) (Int.ofNat i) b (bytes s)) λ v=>v=.bool ((s.drop i).all namB):=λ b hb=>by
     rw [zOs,QZ h,QW];refine Wp.if (λ q=>Wp.mk ?_) λ q=>?_
     ·have:namB s[i]=false:=by rw [q] at hb;simpa using hb.symm
      rw [this];rfl
     ·have:namB s[i]=true:=by rw [q] at hb;simpa using hb.symm
      have:=z (i+1) h (by omega)
      rw [QO] at this;rw [zc (by omega),this,‹namB s[i]=true›]
      exact Wp.mk rfl
    generalize s[i]=c at next
    repeat' first | refine Wp.ite (λ _=>?_) (λ _=>?_) | refine next _ ?_
    all_goals simp only [qr] at *
    all_goals unfold namB lowB digB
    all_goals rw [Bool.eq_iff_iff]
    all_goals simp
    all_goals omega
   ·rw [Qh j];rfl
 have g:∀b:Bool,(b=true->zAN 16 s=false)->(b=false->zAN 16 s=s.all namB)->zDK s b=some (.bool (zAN 16 s)):=λ b r k=>by
  refine zi ?_
  rw [zOv];refine Wp.if (λ h=>Wp.mk (by rw [r h])) λ h=>?_
  rw [zOu];refine ⟨_,loop FUEL 0 (QP _) (zC (by omega)),?_⟩
  rw [k h];rfl
 refine zi ?_
 rw [zQz];refine Wp.ite (λ h=>⟨_,g _ (λ _=>?_) (λ h=>by cases h),rfl⟩) λ h0=>Wp.ite (λ h=>⟨_,g _ (λ _=>?_) (λ h=>by cases h),rfl⟩) λ r=>?_
 ·unfold zAN;rw [zBp (by rw [qr] at h;omega)];simp
 ·unfold zAN;rw [QG (by rw [qr] at h;omega)];simp
 ·rw [qr] at h0 r;have hl:0<s.length:=by omega
  have u:ixN s 0=some s[0]:=zAw hl;have t:decide (s.length<=16)=true:=QI (by omega)
  have d:isAt lowB s 0=lowB s[0]:=zA hl;rw [u];refine Wp.ite (λ h=>⟨_,g _ (λ _=>?_) (λ h=>by cases h),rfl⟩) λ k=>⟨_,g _ (λ h=>?_) (λ h=>?_),rfl⟩
  ·unfold zAN;rw [t,d];unfold lowB;rw [QG (by rw [qr] at h;omega)];simp
  ·have h:=QS h;unfold zAN;rw [t,d];unfold lowB;rw [QG (by rw [qr] at h;omega)];simp
  ·have h:=Qr h;unfold zAN;rw [t,d];unfold lowB;rw [QI (by rw [qr] at h k;omega)];simp
theorem zGb (s:List Nat) (hl:s.length<=2000000):zQ s=some (.bool (zAN 16 s)):=by
 refine zi ?_
 rw [zJI];exact qk_b (zKJ s 16 hl) (Wp.mk rfl)
def numC (x:Nat) (l:List Nat):Nat:=l.foldl (λ x c=>10*x+(c-48)) x
theorem zTM {c:Nat} (h:digB c=true):wrapx .i64 (wrapx .u8 (Int.ofNat c-48))=((c-48:Nat):Int):=by
 rw [zVx h];have h:=QS h;exact zL (by omega) (by omega)
theorem zWG (s:List Nat) (hs:s.length<=2000000):∀(f i x:Nat),i<=s.length->s.length-i<f →
  zEN f ((min x (1099511627777):Nat):Int) (Int.ofNat (bytes s).length) (Int.ofNat i) (bytes s)=some (if (s.drop i).all digB=true then .qc [.int .i64 ((min (numC x (s.drop i)) (1099511627777):Nat):Int),.bool (decide (numC x (s.drop i)<=1099511627776))] else .qc [.int .i64 (Int.ofNat 0),.bool false]):=by
 intro f
 induction f with
 | zero=>intro i x _ h;omega
 | succ f B=>
  intro i x F D;refine zi ?_
  rw [zMN,QO];refine Wp.lt (λ d=>zMy d (qk_u (zVm d) ?_)) λ j=>Wp.mk ?_
  ·rw [QZ d,QW];have g:digB s[i]=false->AV.qc [.int .i64 (Int.ofNat 0),.bool false]=if (digB s[i]&&(s.drop (i+1)).all digB)=true then .qc [.int .i64 ((min (numC x (s[i]::s.drop (i+1))) (1099511627777):Nat):Int),.bool (decide (numC x (s[i]::s.drop (i+1))<=1099511627776))] else .qc [.int .i64 (Int.ofNat 0),.bool false]:=λ h=>by
    rw [h,if_neg (by simp)]
   refine Wp.ite (λ h=>Wp.mk (g ?_)) λ t=>Wp.ite (λ h=>Wp.mk (g ?_)) λ r=>?_
   ·unfold digB;exact QG (by rw [qr] at h;omega)
   ·unfold digB;exact QG (by rw [qr] at h;omega)
   ·have k:digB s[i]=true:=by unfold digB;exact QI (by rw [qr] at t r;omega)
    have z:numC x (s[i]::s.drop (i+1))=numC (10*x+(s[i]-48)) (s.drop (i+1)):=rfl;rw [k,Bool.true_and,z];have E:=QS k;have u:=zTM k;have:=B (i+1) (10*x+(s[i]-48)) d (by omega)
    rw [QO] at this;generalize s[i]=c at *;rw [zM3,u,zc (by omega)]
    have A:wrapx .i64 (10*((min x (1099511627777):Nat):Int))=((10*min x (1099511627777):Nat):Int):=by rw [zL (by omega) (by omega)];omega
    have C:wrapx .i64 (((10*min x (1099511627777):Nat):Int)+((c-48:Nat):Int))=((10*min x (1099511627777)+(c-48):Nat):Int):=by rw [zL (by omega) (by omega)];omega
    have q:(if (1099511627777:Int)<((10*min x (1099511627777)+(c-48):Nat):Int) then (1099511627777:Int) else ((10*min x (1099511627777)+(c-48):Nat):Int))=((min (10*x+(c-48)) (1099511627777):Nat):Int):=by
     split <;> omega
    rw [A,C,q,this];exact Wp.mk rfl
  ·rw [Qh j,if_pos (by rfl)]
   show _=AV.qc [.int .i64 ((min x (1099511627777):Nat):Int),.bool (decide (x<=1099511627776))]
   rw [show decide (((min x (1099511627777):Nat):Int)<=1099511627776)=decide (x<=1099511627776) from decide_eq_decide.2 (by omega)]
theorem zUs (s:List Nat) (hs:s.length<=2000000):∀(f i x v:Nat) (j:Bool),i<=s.length->s.length-i<f->j=decide (v > 1099511627776)->(j=false->x=v)->x<=20000000000000 →
  ∃(y:Int) (o:Bool),z4 f s (Int.ofNat 1099511627776) (Int.ofNat x) j (Int.ofNat i)=some (if (s.drop i).all digB=true then .qc [.int .i64 y,.bool o,.bool true] else .qc [.int .i64 (Int.ofNat 0),.bool false,.bool false])/\o=decide (numC v (s.drop i) > 1099511627776)/\(o=false->y=Int.ofNat (numC v (s.drop i))):=by
 intro f
 induction f with
 | zero=>intro i x v j _ h;omega
 | succ f E=>
  intro i x v j O M t D z;by_cases d:i<s.length
  ·have r:=QZ d;by_cases k:digB s[i]=true
   ·have H:numC v (s.drop i)=numC (10*v+(s[i]-48)) (s.drop (i+1)):=by rw [r];rfl
    have g:(s.drop i).all digB=(s.drop (i+1)).all digB:=by rw [r,QW,k,Bool.true_and]
    have F:=QS k;have G:=zTM k;have step:∀(B:Nat) (q:Bool),zBz f s (Int.ofNat 1099511627776) (Int.ofNat x) j (Int.ofNat i)=zU f s (Int.ofNat 1099511627776) (Int.ofNat B) q (Int.ofNat i)->z4 (f+1) s (Int.ofNat 1099511627776) (Int.ofNat x) j (Int.ofNat i)=z4 f s (Int.ofNat 1099511627776) (Int.ofNat B) q (Int.ofNat (i+1)):=λ B q h=>by
     rw [zB8,QI (show Int.ofNat i<Int.ofNat s.length from Int.ofNat_lt.2 d),zAw d]
     show br (decide (Int.ofNat s[i]<48)) _ (br (decide (Int.ofNat s[i] > 57)) _ _)=_
     rw [QG (show ¬Int.ofNat s[i]<48 by rw [qr];omega),QG (show ¬Int.ofNat s[i] > 57 by rw [qr];omega)]
     show zBz f s (Int.ofNat 1099511627776) (Int.ofNat x) j (Int.ofNat i)=_
     rw [h,zHQ,zc (by omega)]
    have u:ixN s (Int.ofNat i)=some s[i]:=zAw d;rw [H,g];cases hov:j with
    | true=>
     rw [hov] at t step;have J:=QS t.symm;rw [step x true (by rw [zEb];rfl)]
     exact E (i+1) x (10*v+(s[i]-48)) true d (by omega) (QI (by omega)).symm (λ h=>by cases h) z
    | false=>
     rw [hov] at t step;have J:=Qr t.symm;have C:=D hov;subst C;have I:wrapx .i64 (Int.ofNat x*10)=((10*x:Nat):Int):=by rw [qr,zL (by omega) (by omega)];omega
     have K:wrapx .i64 (((10*x:Nat):Int)+((s[i]-48:Nat):Int))=Int.ofNat (10*x+(s[i]-48)):=by rw [zL (by omega) (by omega),qr];omega
     rw [step (10*x+(s[i]-48)) (decide (Int.ofNat (10*x+(s[i]-48)) > Int.ofNat 1099511627776)) (by
      rw [zEb,u];show zU f s (Int.ofNat 1099511627776) (wrapx .i64 (wrapx .i64 (Int.ofNat x*10)+wrapx .i64 (wrapx .u8 (Int.ofNat s[i]-48)))) (decide (wrapx .i64 (wrapx .i64 (Int.ofNat x*10)+wrapx .i64 (wrapx .u8 (Int.ofNat s[i]-48))) > Int.ofNat 1099511627776)) (Int.ofNat i)=_
      rw [G,I,K])]
     exact E (i+1) _ (10*x+(s[i]-48)) _ d (by omega) (decide_eq_decide.2 (by rw [qr,qr];omega)) (λ _=>rfl) (by omega)
   ·have k:digB s[i]=false:=by simpa using k
    have g:(s.drop i).all digB=false:=by rw [r,QW,k];rfl
    rw [g];refine ⟨Int.ofNat (numC v (s.drop i)),_,?_,rfl,λ _=>rfl⟩
    rw [zB8,QI (show Int.ofNat i<Int.ofNat s.length from Int.ofNat_lt.2 d),zAw d]
    show br (decide (Int.ofNat s[i]<48)) _ (br (decide (Int.ofNat s[i] > 57)) _ _)=_
    have F:=Qr k;by_cases A:Int.ofNat s[i]<48
    ·rw [QI A];rfl
    ·rw [QG A,QI (show Int.ofNat s[i] > 57 by rw [qr] at A ⊢;omega)];rfl
  ·have k:s.drop i=[]:=Qh (by omega)
   rw [k];refine ⟨Int.ofNat x,j,?_,t,λ h=>by rw [D h];rfl⟩
   rw [zB8,QG (show ¬Int.ofNat i<Int.ofNat s.length from λ h=>d (Int.ofNat_lt.1 h))]
   rfl
theorem zWH (s:List Nat) (hs:s.length<=2000000):∃(n m:Int) (b:Bool),z8 s=some (.qc [.int .i64 n,.bool b])/\zAC s=some (.qc [.int .i64 m,.bool b])/\(b=true->n=m):=by
 have g12:∀{y:Int} {o p:Bool},zAB s (Int.ofNat 1099511627776)=some (.qc [.int .i64 y,.bool o,.bool p])->zAC s=some (.qc [.int .i64 y,.bool (p&&!o)]):=λ{y o p} h=>by
  rw [zIZ,h];cases p <;> rfl
 have bad:z8 s=some (.qc [.int .i64 (Int.ofNat 0),.bool false])->zAB s (Int.ofNat 1099511627776)=some (.qc [.int .i64 (Int.ofNat 0),.bool false,.bool false])->∃(n m:Int) (b:Bool),z8 s=some (.qc [.int .i64 n,.bool b])/\zAC s=some (.qc [.int .i64 m,.bool b])/\(b=true->n=m):=λ j g=>
  ⟨_,_,_,j,g12 g,λ h=>by cases h⟩
 have q:z8 s=zFh s->zAB s (Int.ofNat 1099511627776)=zBA s (Int.ofNat 1099511627776) (Int.ofNat 0) false->∃(n m:Int) (b:Bool),z8 s=some (.qc [.int .i64 n,.bool b])/\zAC s=some (.qc [.int .i64 m,.bool b])/\(b=true->n=m):=λ j g=>by
  have A:=zWG s hs FUEL 0 0 (QP _) (zC (by omega))
  obtain ⟨y,o,B,t,z⟩:=zUs s hs FUEL 0 0 0 false (QP _) (zC (by omega)) rfl (λ _=>rfl) (by omega)
  rw [List.drop_zero] at A B t z;have j:z8 s=_:=j.trans ((zM4 s).trans A);have g:zAB s (Int.ofNat 1099511627776)=_:=g.trans ((zHR s _ _ _).trans B);by_cases u:s.all digB=true
  ·rw [if_pos u] at j g;refine ⟨_,y,_,j,?_,λ h=>?_⟩
   ·have e:(!o)=decide (numC 0 s<=1099511627776):=by rw [t,←decide_not];exact decide_eq_decide.2 (by omega)
    rw [g12 g,Bool.true_and,e]
   ·have h:=QS h;rw [z (by rw [t];exact QG (by omega)),qr]
    omega
  ·rw [if_neg u] at j g;exact ⟨_,_,_,j,g12 g,λ h=>by cases h⟩
 cases s with
 | nil=>exact bad (by rw [zHs];rfl) (by rw [zCP];rfl)
 | cons c r=>
  have d:seqb (c::r) []=false:=by rw [zK];rfl
  have h0:ixN (c::r) 0=some c:=rfl;by_cases k:c=48/\0<r.length
  ·refine bad ?_ ?_
   ·rw [zHs,d,h0];show br (Int.ofNat c==48) (br (decide (Int.ofNat (c::r).length > 1)) _ _) _=_
    rw [k.1,QI (show Int.ofNat (48::r).length > 1 by rw [qr,QT];omega)];rfl
   ·rw [zCP,d,h0,QI (show Int.ofNat (c::r).length > 1 by rw [qr,QT];omega)]
    show br (Int.ofNat c==48) _ _=_
    rw [k.1];rfl
  ·refine q ?_ ?_
   ·rw [zHs,d,h0];show br (Int.ofNat c==48) (br (decide (Int.ofNat (c::r).length > 1)) _ _) _=_
    by_cases hc:c=48
    ·rw [hc,QG (show ¬Int.ofNat (48::r).length > 1 by rw [qr,QT];omega)];rfl
    ·rw [show (Int.ofNat c==48)=false from (zBh (y:=48)).2 hc];rfl
   ·rw [zCP,d,h0];show br (decide (Int.ofNat (c::r).length > 1)) (br (Int.ofNat c==48) _ _) _=_
    by_cases C:0<r.length
    ·rw [QI (show Int.ofNat (c::r).length > 1 by rw [qr,QT];omega),show (Int.ofNat c==48)=false from (zBh (y:=48)).2 λ h=>k ⟨h,C⟩];rfl
    ·rw [QG (show ¬Int.ofNat (c::r).length > 1 by rw [qr,QT];omega)];rfl
theorem zMJ {l:List AV} {v s:List Nat} {n i:Nat} (g:l[i]? = some (.str s)) (hl:l.length<=2000):zAo (n+1) l v (Int.ofNat l.length) (Int.ofNat i)=if v=s then some (.int .i64 (Int.ofNat i)) else zAo n l v (Int.ofNat l.length) (Int.ofNat (i+1)):=by
 have d:=(QD.1 g).1;rw [zDv,QI (show Int.ofNat i<Int.ofNat l.length from Int.ofNat_lt.2 d),zLY,g,zc (by omega)]
 show br (seqb v s) _ _=_
 rw [zK,zVJ]
theorem zLq {l:List AV} {v s:List Nat} {n i:Nat} (g:l[i]? = some (.str s)) (hl:l.length<=2000):zAu (n+1) v l (Int.ofNat i)=if s=v then some (.int .i64 (Int.ofNat i)) else zAu n v l (Int.ofNat (i+1)):=by
 have d:=(QD.1 g).1;rw [zEI,QI (show Int.ofNat i<Int.ofNat l.length from Int.ofNat_lt.2 d),zLY,g,zc (by omega)]
 show br (seqb s v) _ _=_
 rw [zK,zVJ]
theorem zVK (v:List Nat):∃n:Int,zLF v=some (.int .i64 n)/\zEe v=some (.int .i64 n)/\n<=3:=by
 have hb:∀{L:List AV},L=[AV.str [102,114,101,101],AV.str [98,97,116,99,104],AV.str [112,114,111,100],AV.str [109,111,110,105,116,111,114,105,110,103]]->∃n:Int,zBv L v=some (.int .i64 n)/\zAu FUEL v L (Int.ofNat 0)=some (.int .i64 n)/\n<=3:=λ{L} g=>by
  have h0:L[0]? = some (.str [102,114,101,101]):=by rw [g];rfl
  have t:L[1]? = some (.str [98,97,116,99,104]):=by rw [g];rfl
  have r:L[2]? = some (.str [112,114,111,100]):=by rw [g];rfl
  have u:L[3]? = some (.str [109,111,110,105,116,111,114,105,110,103]):=by rw [g];rfl
  have hl:L.length=4:=by rw [g];rfl
  have d:L.length<=2000:=by omega
  rw [zHL,show FUEL=1180591620717411303419+1+1+1+1+1 from zER]
  rw [zMJ h0 d,zMJ t d,zMJ r d,zMJ u d,zLq h0 d,zLq t d,zLq r d,zLq u d];rw [zDv,zEI,hl];rw [QG (show ¬Int.ofNat (3+1)<Int.ofNat 4 by decide)]
  by_cases j:v=[102,114,101,101]
  ·exact ⟨0,if_pos j,if_pos j.symm,by decide⟩
  rw [if_neg j,if_neg (show ¬[102,114,101,101]=v from λ h=>j h.symm)]
  by_cases k:v=[98,97,116,99,104]
  ·exact ⟨1,if_pos k,if_pos k.symm,by decide⟩
  rw [if_neg k,if_neg (show ¬[98,97,116,99,104]=v from λ h=>k h.symm)]
  by_cases z:v=[112,114,111,100]
  ·exact ⟨2,if_pos z,if_pos z.symm,by decide⟩
  rw [if_neg z,if_neg (show ¬[112,114,111,100]=v from λ h=>z h.symm)]
  by_cases q:v=[109,111,110,105,116,111,114,105,110,103]
  ·exact ⟨3,if_pos q,if_pos q.symm,by decide⟩
  rw [if_neg q,if_neg (show ¬[109,111,110,105,116,111,114,105,110,103]=v from λ h=>q h.symm)]
  exact ⟨Int.negSucc 0,rfl,rfl,by decide⟩
 obtain ⟨n,t,r,u⟩:=hb rfl;refine ⟨n,?_,?_,u⟩
 ·rw [zQA,zQa];show dK true [K.i IntKind.i64] (zBv _ v) _=_
  rw [t];rfl
 ·rw [zJJ,zE9];exact r
def zLr (key:List Nat):Prop:=key=[117,115,101,114]\/key=[98,97,110,100]\/key=[99,111,117,110,116]\/key=[100,111,119,110]\/key=[105,110]\/key=[99,112,117]\/key=[114,97,109]\/key=[100,105,115,107]\/key=[112,111,114,116,115]\/key=[114,117,108,101]\/key=[98,97,116,99,104]
theorem zSJ {k:Int} {key:List Nat} (d:¬zLr key):zA0 k key=some (.bool false)/\zBV k key=some (.bool false):=by
 unfold zLr at d;simp only [not_or] at d;simp [zFA,zD7,zD6,zD5,zBe,zAL,zAK,zAJ,zK,zKp,zEF,d]
theorem zWI (k:Int) (key:List Nat):∃b:Bool,zA0 k key=some (.bool b)/\zBV k key=some (.bool b):=by
 by_cases d:zLr key
 rotate_left
 ·exact ⟨false,zSJ d⟩
 rcases d with rfl | rfl | rfl | rfl | rfl | rfl | rfl | rfl | rfl | rfl | rfl
 all_goals first | (refine ⟨true,?_⟩;constructor <;> (simp [zFA,zD7,zD6,zD5,zBe,zAL,zAK,zAJ,zK,zKp,zEF];done)) | (refine ⟨k != 3,?_⟩;constructor <;> (simp [zFA,zD7,zD6,zD5,zBe,zAL,zAK,zAJ,zK,zKp,zEF];done)) | (refine ⟨k==1,?_⟩;constructor <;> (simp [zFA,zD7,zD6,zD5,zBe,zAL,zAK,zAJ,zK,zKp,zEF];done)) | (refine ⟨k==3,?_⟩;constructor <;> (simp [zFA,zD7,zD6,zD5,zBe,zAL,zAK,zAJ,zK,zKp,zEF];done))
def plB (c:Nat):Bool:=decide (33<=c/\c<=126/\c≠35/\c≠34)
def qtB (c:Nat):Bool:=decide (32<=c/\c<=126/\c≠35/\c≠34)
def enB (c:Nat):Bool:=decide (c≠32/\c≠35)
structure MW where
 p:Nat
 raw:List Nat
 key:List Nat
 val:List Nat
 gv:Bool
def eqE (L:List Nat) (i:Nat):Nat:=i+rn (λ c=>c != 61) L i
def plE (L:List Nat) (i:Nat):Nat:=i+rn plB L i
def qtE (L:List Nat) (j:Nat):Nat:=j+1+rn qtB L (j+1)
def keyT (L:List Nat) (i t:Nat):List Nat:=cutS L i (min t (eqE L i))
def valT (L:List Nat) (i t:Nat):List Nat:=if eqE L i<t then cutS L (eqE L i+1) t else []
def isQ (L:List Nat) (i:Nat):Prop:=L[plE L i]? = some 34/\eqE L i+1=plE L i
instance (L:List Nat) (i:Nat):Decidable (isQ L i):=by unfold isQ;infer_instance
def zCm (L:List Nat) (i:Nat):Except Nat (Nat×MW):=
 if isQ L i then
  if L[qtE L (plE L i)]? = some 34 then
   if isAt enB L (qtE L (plE L i)+1)=true then .error (qtE L (plE L i)+1)
   else .ok (qtE L (plE L i)+1,⟨i,cutS L i (qtE L (plE L i)+1),cutS L i (eqE L i),cutS L (plE L i+1) (qtE L (plE L i)),true⟩)
  else .error (plE L i)
 else if isAt enB L (plE L i)=true then .error (plE L i)
 else .ok (plE L i,⟨i,cutS L i (plE L i),keyT L i (plE L i),valT L i (plE L i),decide (eqE L i<plE L i)⟩)
def zCd (L:List Nat):Nat->Nat->List MW->Except Nat (List MW)
 | 0,_,d=>.ok d
 | n+1,i,d=>if L.length<=i\/L[i]? = some 35 then .ok d else if L[i]? = some 32 then zCd L n (i+1) d else match zCm L i with
  | .error p=>.error p
  | .ok (j,w)=>zCd L n j (d++[w])
theorem zL6 {L:List Nat} {i:Nat} (h:i<=L.length):i<=plE L i/\plE L i<=L.length:=⟨Qu _ _,zBY _ _ _ h⟩
theorem zNS (L:List Nat) (i:Nat):i<=eqE L i:=Qu _ _
theorem zP3 {L:List Nat} {i t:Nat} (h1:i<=t) (d:t<plE L i):isAt plB L t=true:=by
 have:=zCl (f:=plB) (s:=L) (t-i) i (by unfold plE at d;omega)
 rwa [show i+(t-i)=t by omega] at this
theorem zSK (L:List Nat) (i:Nat):isAt plB L (plE L i)=false:=zDQ _ _ _ i (QA _)
theorem zUt {L:List Nat} {i t:Nat} (h1:i<=t) (d:t<eqE L i):L[t]?≠some 61:=λ h=>by
 have:=zCl (f:=λ c=>c != 61) (s:=L) (t-i) i (by unfold eqE at d;omega)
 rw [show i+(t-i)=t by omega] at this
 unfold isAt at this;rw [h] at this;cases this
theorem zL7 {L:List Nat} {i:Nat} (h:eqE L i<L.length):L[eqE L i]? = some 61:=by
 have:=zDQ (λ c=>c != 61) L _ i (QA _)
 have this:isAt (λ c=>c != 61) L (eqE L i)=false:=this
 rw [zA h] at this;rw [QC h];have:L[eqE L i]=61:=by simpa using this
 rw [this]
theorem zLs {L:List Nat} {a t:Nat} (h1:a<=t) (d:t<L.length):cutS L a (t+1)=cutS L a t++[L[t]]:=by
 unfold cutS;have e:L.take (t+1)=L.take t++[L[t]]:=by simp
 rw [e,List.drop_append_of_le_length (by rw [Qe];omega)]
theorem zO9 (L:List Nat) (a:Nat):cutS L a a=[]:=by
 unfold cutS;exact Qh (by rw [Qe];omega)
theorem zQx (L:List Nat) (a t:Nat):(cutS L a t).length<=L.length:=by
 unfold cutS;rw [Qk,Qe];omega
structure Sub (s L:List Nat) (a:Nat):Prop where
 le:a+L.length<=s.length
 eq:∀k,k<L.length->s[a+k]? = L[k]?
 uE:s.length<=65536
section
variable {s L:List Nat} {a:Nat} (hS:Sub s L a)
include hS
theorem Sub.ix {t:Nat} (h:t<L.length):ixN s (Int.ofNat (a+t))=some L[t]:=by
 show s[a+t]? = _
 rw [hS.eq t h,QC h]
theorem Sub.cut {p q:Nat} (h1:p<=q) (d:q<=L.length):List.drop (a+p) (List.take (a+q) s)=cutS L p q:=by
 have g:=hS.le;refine List.ext_getElem? λ k=>?_
 by_cases h:k<q-p
 ·rw [List.getElem?_drop,List.getElem?_take_of_lt (by omega),show a+p+k=a+(p+k) by omega,hS.eq _ (by omega)]
  obtain ⟨r,rfl⟩:∃r,q=p+r:=⟨q-p,by omega⟩
  rw [zIT d (by omega)]
 ·rw [Qs (by rw [Qk,Qe];omega),Qs (by unfold cutS;rw [Qk,Qe];omega)]
theorem zX8 (c:Nat):zDX (Int.ofNat c)=some (.bool (plB c)):=by
 refine zi ?_
 rw [zJr]
 repeat' first | refine Wp.ite (λ _=>?_) (λ _=>?_) | refine Wp.if (λ _=>?_) (λ _=>?_) | refine Wp.mk ?_
 all_goals simp only [qr,ge_iff_le] at *
 all_goals refine congrArg AV.bool ?_
 all_goals unfold plB
 all_goals rw [Bool.eq_iff_iff]
 all_goals simp_all
 all_goals omega
theorem zWJ {j:Nat} (Q:j<L.length):zDA s (Int.ofNat (a+j)) (Int.ofNat (a+L.length))=some (.int .i64 (if L[qtE L j]? = some 34 then Int.ofNat (a+qtE L j) else Int.negSucc 0)):=by
 have I:=hS.le;have hb:=hS.uE;have O:=zBY qtB L (j+1) (by omega)
 have C:qtE L j=j+1+rn qtB L (j+1):=rfl;have loop:∀(f t:Nat),j+1<=t->t<=qtE L j->L.length-t<f->zBx f s (Int.ofNat (a+L.length)) (Int.ofNat (a+t))=some (.int .i64 (if L[qtE L j]? = some 34 then Int.ofNat (a+qtE L j) else Int.negSucc 0)):=by
  intro f
  induction f with
  | zero=>intro t _ _ h;omega
  | succ f H=>
   intro t K J M;refine zi ?_
   rw [zHN];refine Wp.lt (λ g=>?_) λ B=>Wp.mk ?_
   ·have g:t<L.length:=by omega
    rw [hS.ix g];have u:isAt qtB L t=qtB L[t]:=zA g;have A:t<qtE L j->qtB L[t]=true:=λ h=>by
     have:=zCl (f:=qtB) (s:=L) (t-(j+1)) (j+1) (by omega)
     rwa [show j+1+(t-(j+1))=t by omega,u] at this
    have r:t=qtE L j->qtB L[t]=false:=λ h=>by
     have:=zDQ qtB L _ (j+1) (QA _);have this:isAt qtB L (qtE L j)=false:=this
     rwa [←h,u] at this
    have E:L[t]? = some L[t]:=QC g;have bad:t=qtE L j->L[t]≠34->AV.int .i64 (Int.negSucc 0)=AV.int .i64 (if L[qtE L j]? = some 34 then Int.ofNat (a+qtE L j) else Int.negSucc 0):=λ h d=>by
     rw [←h,E,if_neg (by simpa using d)]
    have k:qtB L[t]=false->t=qtE L j:=λ h=>by
     by_cases G:t<qtE L j
     ·rw [A G] at h;cases h
     ·omega
    generalize hc:L[t]=c at *;refine Wp.if (λ h=>Wp.mk ?_) λ d=>Wp.ite (λ h=>Wp.mk ?_) λ D=>Wp.ite (λ h=>Wp.mk ?_) λ z=>Wp.if (λ h=>Wp.mk ?_) λ q=>?_
    ·have h:c=34:=(beqN (y:=34)).1 h;have F:=k (by rw [h];rfl)
     rw [←F,E,h,if_pos rfl]
    ·have d:c≠34:=(zBh (y:=34)).1 d;rw [qr] at h;exact bad (k (by unfold qtB;exact QG (by omega))) d
    ·have d:c≠34:=(zBh (y:=34)).1 d;rw [qr] at h;exact bad (k (by unfold qtB;exact QG (by omega))) d
    ·have d:c≠34:=(zBh (y:=34)).1 d;have h:c=35:=(beqN (y:=35)).1 h;exact bad (k (by unfold qtB;exact QG (by omega))) d
    ·have d:c≠34:=(zBh (y:=34)).1 d;have q:c≠35:=(zBh (y:=35)).1 q;rw [qr] at D z;have C:qtB c=true:=by unfold qtB;exact QI (by omega)
     have:t≠qtE L j:=λ h=>by rw [r h] at C;cases C
     rw [zc (by omega),Nat.add_assoc,H (t+1) (by omega) (by omega) (by omega)]
     exact Wp.mk rfl
   ·have B:L.length<=t:=by omega
    rw [Qs (show L.length<=qtE L j by omega),if_neg (by simp)]
 rw [zIY,zc (by omega),Nat.add_assoc]
 exact loop FUEL (j+1) (QA _) (by omega) (by have:=zC (n:=65537) (by omega);omega)
end
def wB (a:Nat) (w:MW):AV:=.agg [.int .i64 (Int.ofNat (a+w.p)),.str w.key,.bool w.gv,.str w.val]
def encB (a:Nat):Except Nat (List MW)->AV
 | .ok ws=>.qc [.ql 4 (ws.map (wB a)),.int .i64 (Int.negSucc 0)]
 | .error p=>.qc [.qa,.int .i64 (Int.ofNat (a+p))]
section
variable {s L:List Nat} {a:Nat} (hS:Sub s L a)
include hS
theorem g_j1 {n t i:Nat} {key val:List Nat} {gv:Bool} {acc:List MW} {raw:List Nat} {P:AV->Prop} (u:t<=L.length) (k:acc.length<=65536)
  (h1:isAt enB L t=true->P (.qc [.qa,.int .i64 (Int.ofNat (a+t))])) (r:isAt enB L t=false->Wp (zx n s (Int.ofNat (a+t)) (Int.ofNat (a+L.length)) ((acc++[MW.mk i raw key val gv]).map (wB a))) P):
  Wp (zAj n s (Int.ofNat (a+t)) (Int.ofNat (a+L.length)) (Int.ofNat (a+i)) key gv val (acc.map (wB a))) P:=by
 have app:isAt enB L t=false->Wp (gd (decide (((acc.map (wB a)).length+(chunks 4 1 [AV.int .i64 (Int.ofNat (a+i)),AV.str key,AV.bool gv,AV.str val]).length)*48<=zd/\(acc.map (wB a)).length+(chunks 4 1 [AV.int .i64 (Int.ofNat (a+i)),AV.str key,AV.bool gv,AV.str val]).length<=zd)) (zx n s (Int.ofNat (a+t)) (Int.ofNat (a+L.length)) (acc.map (wB a)++chunks 4 1 (List.drop 0 (qk [AV.int .i64 0,AV.str [],AV.bool false,AV.str []] 0 (AV.cells (AV.agg (List.take 4 (List.drop 0 [AV.int .i64 (Int.ofNat (a+i)),AV.str key,AV.bool gv,AV.str val]))))))))) P:=λ h=>by
  refine Wp.gd ?_ ?_
  ·show ((acc.map (wB a)).length+1)*48<=zd/\(acc.map (wB a)).length+1<=zd
   rw [QO];unfold zd;omega
  ·have:=r h;rw [ZA] at this;exact this
 rw [zIk];refine Wp.lt (λ g=>?_) λ q=>app (zBp (by omega))
 have g:t<L.length:=by omega
 have j:isAt enB L t=enB L[t]:=zA g;rw [hS.ix g];refine Wp.if (λ h=>Wp.if (λ d=>Wp.mk (h1 ?_)) λ d=>app ?_) λ h=>app ?_
 ·have h:(!(Int.ofNat L[t]==Int.ofNat 32))=true:=h;have d:(!(Int.ofNat L[t]==Int.ofNat 35))=true:=d;have h:L[t]≠32:=zBh.1 (by simpa using h)
  have d:L[t]≠35:=zBh.1 (by simpa using d)
  rw [j];unfold enB;exact QI ⟨h,d⟩
 ·have d:(!(Int.ofNat L[t]==Int.ofNat 35))=false:=d;have d:L[t]=35:=beqN.1 (by simpa using d)
  rw [j];unfold enB;exact QG (by omega)
 ·have h:(!(Int.ofNat L[t]==Int.ofNat 32))=false:=h;have h:L[t]=32:=beqN.1 (by simpa using h)
  rw [j];unfold enB;exact QG (by omega)
theorem zZk {n i:Nat} {acc:List MW} {P:AV->Prop} (hi:i<L.length) (H:acc.length<=65536)
  (h1:∀p,zCm L i=.error p->P (.qc [.qa,.int .i64 (Int.ofNat (a+p))])) (F:∀j w,zCm L i=.ok (j,w)->Wp (zx n s (Int.ofNat (a+j)) (Int.ofNat (a+L.length)) ((acc++[w]).map (wB a))) P):
  ∀(f t:Nat),i<=t->(if isQ L i then t+1<=plE L i else t<=plE L i)->L.length-t<f->Wp (zBy n f s (Int.ofNat (a+t)) (Int.ofNat (a+L.length)) (Int.ofNat (a+i)) (keyT L i t) (decide (eqE L i<t)) (valT L i t) (acc.map (wB a))) P:=by
 have ac:=hS.le;have hb:=hS.uE;obtain ⟨p1,p2⟩:=zL6 (L:=L) (i:=i) (by omega)
 have m0:ze=9223372036854775807:=rfl;intro f
 induction f with
 | zero=>intro t _ _ h;omega
 | succ f ih=>
  intro t J C hf;have Q:t=plE L i->¬isQ L i->Wp (zAj n s (Int.ofNat (a+t)) (Int.ofNat (a+L.length)) (Int.ofNat (a+i)) (keyT L i t) (decide (eqE L i<t)) (valT L i t) (acc.map (wB a))) P:=λ e d=>by
   subst e;unfold zCm at h1 F;rw [if_neg d] at h1 F;refine g_j1 hS (raw:=cutS L i (plE L i)) p2 H (λ h=>h1 _ (if_pos h)) λ h=>F _ _ (if_neg (show ¬isAt enB L (plE L i)=true by rw [h];decide))
  rw [zHO];refine Wp.lt (λ r=>?_) λ S=>?_
  ·have r:t<L.length:=by omega
   rw [hS.ix r];refine qk_b (zX8 hS _) (Wp.if (λ u=>?_) λ u=>?_)
   ·have u:isAt plB L t=true:=by rw [zA r];exact u
    have X:t<plE L i:=by
     by_cases h:t<plE L i
     ·exact h
     ·have:t=plE L i:=by split at C <;> omega
      rw [this,zSK] at u;cases u
    have K:L[t]? = some L[t]:=QC r;have G:List.drop (Int.toNat (Int.ofNat (a+t))) (List.take (Int.toNat (Int.ofNat (a+t+1))) s)=[L[t]]:=by
     have:=hS.cut (p:=t) (q:=t+1) (by omega) (by omega)
     rw [zLs (QA _) r,zO9] at this;exact this
    have M:(0:Int)<=Int.ofNat (a+t)/\Int.ofNat (a+t)<=Int.ofNat (a+t+1)/\Int.ofNat (a+t+1)<=Int.ofNat s.length:=⟨QV _,Qi.2 (by omega),Qi.2 (by omega)⟩
    have kl:=zQx L i (min t (eqE L i));have vl:(valT L i t).length<=L.length:=by unfold valT;split;exact zQx _ _ _;exact QP _
    have W:∀(k v:List Nat) (g:Bool),(if isQ L i then t+1+1<=plE L i else t+1<=plE L i)->k=keyT L i (t+1)->v=valT L i (t+1)->g=decide (eqE L i<t+1)->Wp (zAS n f s (Int.ofNat (a+t)) (Int.ofNat (a+L.length)) (Int.ofNat (a+i)) k g v (acc.map (wB a))) P:=λ k v g d hk hv D=>by
     subst hk;subst hv;subst D;rw [zIl,zc (by omega),Nat.add_assoc]
     exact ih (t+1) (by omega) d (by omega)
    have O:¬(L[t]=61/\¬eqE L i<t)->(if isQ L i then t+1+1<=plE L i else t+1<=plE L i)->Wp (zBM n f s (Int.ofNat (a+t)) (Int.ofNat (a+L.length)) false (Int.ofNat (a+i)) (keyT L i t) (decide (eqE L i<t)) (valT L i t) (acc.map (wB a))) P:=λ T d=>by
     rw [zEx];refine Wp.if (λ h=>by cases h) λ _=>Wp.ite (λ D=>?_) λ D=>?_
     ·rw [zc (by omega),G]
      refine Wp.gd M (Wp.gd ?_ (W _ _ _ d ?_ ?_ ?_))
      ·simp only [QT,Qj];omega
      ·unfold keyT;rw [show min t (eqE L i)=min (t+1) (eqE L i) by omega]
      ·unfold valT;rw [if_pos D,if_pos (by omega),zLs (by omega) r]
      ·exact decide_eq_decide.2 (by omega)
     ·have V:L[t]≠61:=λ h=>T ⟨h,D⟩
      have aa:t<eqE L i:=by
       by_cases h:t=eqE L i
       ·have:=zL7 (L:=L) (i:=i) (by omega)
        rw [←h,K] at this;exact absurd (Qg this) V
       ·omega
      rw [zc (by omega),G]
      refine Wp.gd M (Wp.gd ?_ (W _ _ _ d ?_ ?_ ?_))
      ·unfold keyT;simp only [QT,Qj];omega
      ·unfold keyT;rw [show min t (eqE L i)=t by omega,show min (t+1) (eqE L i)=t+1 by omega,zLs J r]
      ·unfold valT;rw [if_neg D,if_neg (by omega)]
      ·exact decide_eq_decide.2 (by omega)
    rw [zIm,hS.ix r];refine Wp.if (λ z=>?_) λ z=>?_
    ·have z:L[t]=61:=(beqN (y:=61)).1 z;by_cases D:eqE L i<t
     ·rw [QI D];have:=O (λ h=>h.2 D) (by
       by_cases d:isQ L i
       ·rw [if_pos d];have:=d.2;omega
       ·rw [if_neg d];omega)
      rw [QI D] at this;exact this
     ·
      have B:eqE L i=t:=by
       by_cases h:t<eqE L i
       ·exact absurd (K.trans (congrArg some z)) (zUt J h)
       ·omega
      rw [QG D,zEx];refine Wp.if (λ _=>?_) λ h=>by cases h
      rw [zc (by omega),Nat.add_assoc]
      have Y:¬isQ L i->Wp (zAT n f s (Int.ofNat (a+t)) (Int.ofNat (a+L.length)) false (Int.ofNat (a+i)) (keyT L i t) true (valT L i t) (acc.map (wB a))) P:=λ d=>by
       rw [zEw];refine Wp.if (λ h=>by cases h) λ _=>W _ _ _ (by rw [if_neg d];omega) ?_ ?_ ?_
       ·unfold keyT;rw [B,show min t t=t by omega,show min (t+1) t=t by omega]
       ·unfold valT;rw [B,if_neg (by omega),if_pos (by omega),zO9]
       ·exact (QI (by omega)).symm
      refine Wp.lt (λ A=>?_) λ ab=>Y λ d=>?_
      ·have A:t+1<L.length:=by omega
       rw [hS.ix A];show Wp (zAT n f s (Int.ofNat (a+t)) (Int.ofNat (a+L.length)) (Int.ofNat L[t+1]==Int.ofNat 34) _ _ _ _ _) P
       have R:L[t+1]? = some L[t+1]:=QC A;cases E:(Int.ofNat L[t+1]==Int.ofNat 34) with
       | false=>
        refine Y λ d=>?_
        have:=d.1;rw [←d.2,B,R] at this;exact zBh.1 E (Qg this)
       | true=>
        have E:=beqN.1 E;have I:plE L i=t+1:=by
         by_cases h:t+1<plE L i
         ·have:=zP3 (L:=L) (i:=i) (t:=t+1) (by omega) h
          rw [zA A,E] at this;cases this
         ·omega
        have d:isQ L i:=⟨by rw [I,R,E],by rw [B,I]⟩
        rw [zEw];refine Wp.if (λ _=>?_) λ h=>by cases h
        rw [zc (by omega),Nat.add_assoc]
        refine qk_i (zWJ hS A) ?_
        unfold zCm at h1 F;rw [if_pos d,I] at h1 F;by_cases hc:L[qtE L (t+1)]? = some 34
        ·rw [if_pos hc] at h1 F ⊢;have ad:=zCg hc;have U:t+2<=qtE L (t+1):=by unfold qtE;omega
         have e2:wrapx .i64 (Int.ofNat (a+t)+2)=Int.ofNat (a+(t+2)):=zL (by rw [qr];omega) (by rw [qr];omega)
         have ec:List.drop (Int.toNat (Int.ofNat (a+(t+2)))) (List.take (Int.toNat (Int.ofNat (a+qtE L (t+1)))) s)=cutS L (t+1+1) (qtE L (t+1)):=hS.cut U (by omega)
         refine Wp.ite (λ h=>absurd (QV _) (Int.not_le.2 h)) λ _=>?_
         rw [e2,ec,zc (by omega),Nat.add_assoc a]
         refine Wp.gd ⟨QV _,Qi.2 (by omega),Qi.2 (by omega)⟩ ?_
         have ek:keyT L i t=cutS L i (eqE L i):=by unfold keyT;rw [B,Nat.min_self]
         rw [ek];exact g_j1 hS (raw:=cutS L i (qtE L (t+1)+1)) (by omega) H (λ h=>h1 _ (if_pos h)) λ h=>F _ _ (if_neg (show ¬isAt enB L (qtE L (t+1)+1)=true by rw [h];decide))
        ·rw [if_neg hc] at h1 F ⊢;refine Wp.ite (λ _=>Wp.mk (h1 _ rfl)) λ h=>absurd (by decide) h
      ·have:=d.1;rw [←d.2,B,Qs (by omega)] at this
       cases this
    ·have z:L[t]≠61:=(zBh (y:=61)).1 z;refine O (λ h=>z h.1) ?_
     by_cases d:isQ L i
     ·rw [if_pos d];have F:=d.2;have:t≠eqE L i:=λ h=>by
       have:=zL7 (L:=L) (i:=i) (by omega)
       rw [←h,K] at this;exact z (Qg this)
      rw [if_pos d] at C;omega
     ·rw [if_neg d];omega
   ·have u:isAt plB L t=false:=by rw [zA r];exact u
    have X:¬t<plE L i:=λ h=>by rw [zP3 J h] at u;cases u
    refine Q ?_ λ d=>?_
    ·split at C <;> omega
    ·rw [if_pos d] at C;omega
  ·have S:L.length<=t:=by omega
   refine Q ?_ λ d=>?_
   ·split at C <;> omega
   ·rw [if_pos d] at C;omega
theorem zPa {i j:Nat} {w:MW} (q:i<L.length) (k:L[i]?≠some 32/\L[i]?≠some 35) (h:zCm L i=.ok (j,w)):i<j/\j<=L.length:=by
 obtain ⟨t,r⟩:=zL6 (L:=L) (i:=i) (by omega)
 unfold zCm at h;split at h
 ·split at h
  ·rename_i g;have:=zCg g;split at h
   ·cases h
   ·cases h;have:plE L i+1<=qtE L (plE L i):=by unfold qtE;omega
    omega
  ·cases h
 ·split at h
  ·cases h
  ·rename_i d;cases h;refine ⟨?_,r⟩
   by_cases h:i<plE L i
   ·exact h
   ·exfalso
    have e:plE L i=i:=by omega
    rw [e,zA q] at d;refine d ?_
    unfold enB;rw [QC q] at k;exact QI ⟨λ h=>k.1 (by rw [h]),λ h=>k.2 (by rw [h])⟩
theorem zZl:∀(n m i:Nat) (acc:List MW),L.length-i<n->L.length-i<m->i<=L.length->acc.length<=i->zx n s (Int.ofNat (a+i)) (Int.ofNat (a+L.length)) (acc.map (wB a))=some (encB a (zCd L m i acc)):=by
 have H:=hS.le;have hb:=hS.uE;intro n
 induction n with
 | zero=>intro m i acc h;omega
 | succ n B=>
  intro m i acc J K I A;obtain ⟨m,rfl⟩:∃k,m=k+1:=⟨m-1,by omega⟩
  refine zi ?_
  rw [zHP,zCd];refine Wp.lt (λ d=>?_) λ C=>Wp.mk ?_
  ·have d:i<L.length:=by omega
   have t:L[i]? = some L[i]:=QC d;rw [hS.ix d];refine Wp.if (λ h=>?_) λ h=>Wp.mk ?_
   ·have h:(!(Int.ofNat L[i]==Int.ofNat 35))=true:=h;have g:L[i]≠35:=zBh.1 (by simpa using h)
    rw [if_neg (by rw [t];rintro (h | h);omega;exact g (Qg h)),zIn,hS.ix d]
    refine Wp.if (λ h=>?_) λ h=>?_
    ·have q:L[i]=32:=(beqN (y:=32)).1 h;rw [if_pos (by rw [t,q]),zc (by omega),Nat.add_assoc]
     exact ⟨_,B m (i+1) acc (by omega) (by omega) d (by omega),rfl⟩
    ·have q:L[i]≠32:=(zBh (y:=32)).1 h;have r:L[i]?≠some 32/\L[i]?≠some 35:=by rw [t];exact ⟨λ h=>q (Qg h),λ h=>g (Qg h)⟩
     rw [if_neg r.1];have h0:i<=eqE L i:=zNS L i;have u:=(zL6 (L:=L) (i:=i) (by omega)).1
     have F:keyT L i i=[]:=by unfold keyT;rw [show min i (eqE L i)=i by omega];exact zO9 L i
     have D:valT L i i=[]:=by unfold valT;rw [if_neg (by omega)]
     have:=zZk hS (n:=n) (P:=λ v=>v=encB a (match zCm L i with | .error p=>.error p | .ok (j,w)=>zCd L m j (acc++[w]))) d (acc:=acc) (by omega) (λ p G=>by rw [G];rfl) (λ j w z=>by
      obtain ⟨g1,g2⟩:=zPa hS d r z;rw [z];exact ⟨_,B m j (acc++[w]) (by omega) (by omega) g2 (by rw [QH];show acc.length+1<=j;omega),rfl⟩) FUEL i (QA _) (by
       split
       ·rename_i E;have:=E.2;omega
       ·exact u) (by have:=zC (n:=65537) (by omega);omega)
     rw [F,D,QG (by omega)] at this
     exact this
   ·have h:(!(Int.ofNat L[i]==Int.ofNat 35))=false:=h;have g:L[i]=35:=beqN.1 (by simpa using h)
    rw [if_pos (.inr (by rw [t,g]))];rfl
  ·rw [if_pos (.inl (by omega))];rfl
theorem zX9:zAa s (Int.ofNat a) (Int.ofNat (a+L.length))=some (encB a (zCd L (L.length+1) 0 [])):=by
 rw [zJs];have:=zZl hS FUEL (L.length+1) 0 [] (by have:=zC (n:=65537) (by omega);have:=hS.le;have:=hS.uE;omega) (by omega) (QP _) (QA _)
 exact this
end
end Go.Proofs.YtdeeimaahdgeaaaGreatDoor.spec
namespace Go.Proofs.YtdeeimaahdgeaaaGreatDoor.spec
open Go Go.Sy
variable [MX]
theorem zNT:∀(l:List UInt8) (c:UInt8) (r:List UInt8),c ∉ l->Lib.indexByte (l++c::r) c=(l.length:Int)
 | [],c,r,_=>by simp [Lib.indexByte]
 | x::l,c,r,h=>by
  have g:=zNT l c r λ d=>h (.tail _ d)
  have j:(x==c)=false:=by
   rw [beq_eq_false_iff_ne]
   rintro rfl
   exact h (.head _)
  simp only [List.cons_append,Lib.indexByte,j,g];have:((l.length:Int)==-1)=false:=by rw [beq_eq_false_iff_ne];omega
  simp only [this,QT];simp
theorem zNU:∀(l:List UInt8) (c:UInt8),c ∉ l->Lib.indexByte l c=-1
 | [],c,_=>rfl
 | x::l,c,h=>by
  have g:=zNU l c λ d=>h (.tail _ d)
  have j:(x==c)=false:=by
   rw [beq_eq_false_iff_ne]
   rintro rfl
   exact h (.head _)
  simp only [Lib.indexByte,j,g];rfl
theorem zZm {x c:Nat} (h1:x<256) (d:c<256) (h:x≠c):UInt8.ofNat x≠UInt8.ofNat c:=λ e=>h (by
 have:=congrArg UInt8.toNat e;rw [UInt8.toNat_ofNat',UInt8.toNat_ofNat'] at this;omega)
theorem zP4 {l:List Nat} {c:Nat} (h1:∀x∈l,x<256) (j:c<256) (h:c ∉ l):UInt8.ofNat c ∉ l.map UInt8.ofNat:=λ g=>by
 obtain ⟨x,d,e⟩:=Qo.1 g;exact zZm (h1 x d) j (λ e=>h (e▸d)) e
theorem zYU {l:List Nat} {c:Nat} (h1:∀x∈l,x<256) (d:c<256) (h:c ∉ l):zAG l (Int.ofNat c)=some (.int .i64 (-1)):=by
 show some (AV.int .i64 (Lib.indexByte (l.map UInt8.ofNat) (UInt8.ofNat c)))=_
 rw [zNU _ _ (zP4 h1 d h)]
theorem zYV {l r:List Nat} {c:Nat} (h1:∀x∈l,x<256) (d:c<256) (h:c ∉ l):zAG (l++c::r) (Int.ofNat c)=some (.int .i64 (Int.ofNat l.length)):=by
 show some (AV.int .i64 (Lib.indexByte ((l++c::r).map UInt8.ofNat) (UInt8.ofNat c)))=_
 rw [ZA,Qd,zNT _ _ _ (zP4 h1 d h),QO];rfl
theorem zVL (l:List Nat) (c:Nat) (h8:∀x∈l,x<256) (hc:c<256):zAG l (Int.ofNat c)=some (.int .i64 (if rn (λ x=>x != c) l 0<l.length then Int.ofNat (rn (λ x=>x != c) l 0) else -1)):=by
 have z:=zBY (λ x=>x != c) l 0 (QP _)
 rw [QR] at z;by_cases h:rn (λ x=>x != c) l 0<l.length
 ·rw [if_pos h];have u:l[rn (λ x=>x != c) l 0]=c:=by
   have:=zDQ (λ x=>x != c) l _ 0 (QA _)
   rw [QR,zA h] at this
   simpa using this
  have t:l=l.take (rn (λ x=>x != c) l 0)++c::l.drop (rn (λ x=>x != c) l 0+1):=by
   conv=>lhs;rw [←List.take_append_drop (rn (λ x=>x != c) l 0) l]
   rw [QZ h,u]
  have j:c ∉ l.take (rn (λ x=>x != c) l 0):=λ q=>by
   obtain ⟨k,d⟩:=List.getElem?_of_mem q;have g:=zCg d;rw [Qe] at g;rw [List.getElem?_take_of_lt (by omega)] at d
   have:=zCl (f:=λ x=>x != c) (s:=l) k 0 (by omega)
   rw [QR] at this;unfold isAt at this;rw [d] at this;simp at this
  have:=zYV (l:=l.take (rn (λ x=>x != c) l 0)) (r:=l.drop (rn (λ x=>x != c) l 0+1)) (c:=c) (λ x A=>h8 x (QN A)) hc j
  rw [←t,Qe,Nat.min_eq_left (Qn h)] at this;exact this
 ·rw [if_neg h];refine zYU h8 hc λ q=>?_
  obtain ⟨k,d⟩:=List.getElem?_of_mem q;have g:=zCg d;have:=zCl (f:=λ x=>x != c) (s:=l) k 0 (by omega)
  rw [QR] at this;unfold isAt at this;rw [d] at this;simp at this
def wA (b:Nat) (w:MW):AV:=.agg [.str w.raw,.int .i64 (Int.ofNat (b+w.p))]
def encA (b:Nat):Except Nat (List MW)->AV
 | .ok ws=>.qc [.ql 2 (ws.map (wA b)),.agg [.int .i64 (Int.ofNat 0),.int .i64 (Int.ofNat 0)]]
 | .error p=>.qc [.qa,.agg [.int .i64 (Int.ofNat 5),.int .i64 (Int.ofNat (b+p))]]
theorem Sub.self {L:List Nat} (hl:L.length<=65536):Sub L L 0:=⟨by omega,λ k _=>by rw [QR],hl⟩
section
variable {L:List Nat} {b e:Nat} {P:AV->Prop} (hl:L.length<=65536) (hb:b<=1000000) (he:e<=L.length)
noncomputable abbrev CT (L:List Nat) (b e f st fr q i:Nat) (x y:Int) (ws:List MW):Option AV:=zGA f L (Int.ofNat b) (Int.ofNat st) (Int.ofNat fr) (Int.ofNat q) (Int.ofNat e) (Int.ofNat i) x y (ws.map (wA b))
include hl hb he
theorem wrb {p:Nat} (h:p<=L.length+1):wrapx .i64 (Int.ofNat b+Int.ofNat p)=Int.ofNat (b+p):=by
 rw [zL (by rw [qr,qr];omega) (by rw [qr,qr];omega),qr,qr,qr];omega
theorem zOo {f st fr q i:Nat} {x y:Int} {ws:List MW} (g:i<e) (k:Wp (zCz f L (Int.ofNat b) (Int.ofNat st) (Int.ofNat fr) (Int.ofNat q) (Int.ofNat e) (Int.ofNat i) (Int.ofNat (L[i]'(by omega))) x y (ws.map (wA b))) P):Wp (CT L b e (f+1) st fr q i x y ws) P:=by
 have d:i<L.length:=by omega
 unfold CT;rw [zG0];refine Wp.ite (λ _=>Wp.ite (λ _=>?_) λ h=>absurd (Int.ofNat_lt.2 g) h) λ h=>absurd (Qi.2 (Qn g)) h
 exact Wp.bd (R:=λ c=>c=L[i]) ⟨_,zAw d,rfl⟩ λ c hc=>by subst hc;exact k
theorem zOp {f st fr q:Nat} {x y:Int} {ws:List MW} (k:Wp (zCz f L (Int.ofNat b) (Int.ofNat st) (Int.ofNat fr) (Int.ofNat q) (Int.ofNat e) (Int.ofNat e) (Int.ofNat 32) x y (ws.map (wA b))) P):Wp (CT L b e (f+1) st fr q e x y ws) P:=by
 unfold CT;rw [zG0];exact Wp.ite (λ _=>Wp.ite (λ h=>absurd (Int.ofNat_lt.1 h) (Nat.lt_irrefl _)) λ _=>k) λ h=>absurd (Int.le_refl _) h
theorem zQy {f st fr q:Nat} {x y:Int} {ws:List MW} (k:P (encA b (.ok ws))):Wp (CT L b e (f+1) st fr q (e+1) x y ws) P:=by
 unfold CT;rw [zG0];exact Wp.ite (λ h=>absurd (Qi.1 h) (by omega)) λ _=>Wp.mk k
theorem zMK {f st fr q i:Nat} {x y:Int} {ws:List MW} (d:i<=L.length) (k:Wp (CT L b e f st fr q (i+1) x y ws) P):Wp (zBZ f L (Int.ofNat b) (Int.ofNat st) (Int.ofNat fr) (Int.ofNat q) (Int.ofNat e) (Int.ofNat i) x y (ws.map (wA b))) P:=by
 rw [zPd,zc (by omega)]
 exact k
theorem zUu {f st fr q i c:Nat} {x y:Int} {ws:List MW} (g:i<=L.length) (d:st≠2) (hc:c≠32) (k:Wp (zHh f L (Int.ofNat b) (Int.ofNat st) (Int.ofNat fr) (Int.ofNat q) (Int.ofNat e) (Int.ofNat i) (Int.ofNat c) (decide (c<33\/126<c)) (Int.ofNat 5) (Int.ofNat (b+i)) x y (ws.map (wA b))) P):
  Wp (zCz f L (Int.ofNat b) (Int.ofNat st) (Int.ofNat fr) (Int.ofNat q) (Int.ofNat e) (Int.ofNat i) (Int.ofNat c) x y (ws.map (wA b))) P:=by
 rw [zD4,wrb hl hb he (p:=i) (by omega)]
 refine Wp.if (λ h=>absurd ((beqN (y:=2)).1 h) d) λ _=>Wp.if (λ h=>absurd ((beqN (y:=32)).1 h) hc) λ _=>Wp.ite (λ h=>?_) λ h=>?_
 ·rw [QI (show c<33\/126<c by rw [qr] at h;omega)] at k
  exact k
 ·have:decide (c<33\/126<c)=decide (Int.ofNat c > 126):=decide_eq_decide.2 (by rw [qr] at h ⊢;omega)
  rw [this] at k;exact k
theorem zML {f st fr q i:Nat} {x y:Int} {ws:List MW} {w:MW} (j:i<=L.length) (g:st=1\/st=3) (d:fr<=i) (hws:ws.length<=65537) (t:w.raw=cutS L fr i) (u:w.p=fr) (k:Wp (CT L b e f 0 fr q (i+1) x y (ws++[w])) P):
  Wp (zCz f L (Int.ofNat b) (Int.ofNat st) (Int.ofNat fr) (Int.ofNat q) (Int.ofNat e) (Int.ofNat i) (Int.ofNat 32) x y (ws.map (wA b))) P:=by
 rw [zD4,wrb hl hb he (show fr<=L.length+1 by omega)]
 refine Wp.if (λ h=>by have:=(beqN (y:=2)).1 h;omega) λ _=>Wp.if (λ _=>Wp.if (λ _=>Wp.gd ⟨QV _,Qi.2 d,Qi.2 j⟩ (Wp.gd ?_ ?_)) λ h=>?_) λ h=>by cases h
 ·show ((ws.map (wA b)).length+1)*24<=zd/\(ws.map (wA b)).length+1<=zd
  rw [QO];unfold zd;omega
 ·have r:=zMK hl hb he j k;have e:List.map (wA b) [w]=[.agg [.str (cutS L fr i),.int .i64 (Int.ofNat (b+fr))]]:=by rw [←t,←u];rfl
  rw [ZA,e] at r;exact r
 ·exfalso
  rcases g with rfl | rfl <;> cases h
theorem zL8 {i:Nat} (g:e=rn (λ c=>c != 35) L 0) (h:i<e):∃h:i<L.length,L[i]≠35:=by
 refine ⟨by omega,λ d=>?_⟩
 have:=zCl (f:=λ c=>c != 35) (s:=L) i 0 (by omega)
 rw [QR,zA (by omega),d] at this
 cases this
theorem zJm (d:e=rn (λ c=>c != 35) L 0):L.length<=e\/L[e]? = some 35:=by
 by_cases h:e<L.length
 ·refine .inr ?_
  have:=zDQ (λ c=>c != 35) L _ 0 (QA _)
  rw [QR,←d,zA h] at this;rw [QC h]
  simpa using this
 ·exact .inl (by omega)
theorem zVM {f fr q c:Nat} {x y:Int} {ws:List MW} {w:MW} (u:e=rn (λ c=>c != 35) L 0) (hc:c<=e) (j:fr<=c) (hws:ws.length<=65537) (C:w.raw=cutS L fr c) (D:w.p=fr)
  (h1:isAt enB L c=true->P (encA b (.error c))) (B:isAt enB L c=false->Wp (CT L b e f 0 fr q (c+1) x y (ws++[w])) P):Wp (CT L b e (f+1) 3 fr q c x y ws) P:=by
 by_cases t:c<e
 ·obtain ⟨A,z⟩:=zL8 hl hb he u t;refine zOo hl hb he t ?_
  have k:isAt enB L c=enB L[c]:=zA A;generalize L[c]=d at *;by_cases g:d=32
  ·subst g;exact zML hl hb he (by omega) (.inr rfl) j hws C D (B (by rw [k];rfl))
  ·refine zUu hl hb he (by omega) (by decide) g ?_
   have r:isAt enB L c=true:=by rw [k];unfold enB;exact QI ⟨g,z⟩
   rw [zHr];exact Wp.if (λ _=>Wp.mk (h1 r)) λ _=>Wp.if (λ h=>by cases h) λ _=>Wp.if (λ _=>Wp.mk (h1 r)) λ h=>by cases h
 ·have:c=e:=by omega
  subst this;refine zOp hl hb he (zML hl hb he he (.inr rfl) j hws C D (B ?_))
  rcases zJm hl hb he u with h | h
  ·exact zBp h
  ·unfold isAt;rw [h];rfl
theorem zVN {fr q:Nat} {x y:Int} {ws:List MW} (D:e=rn (λ c=>c != 35) L 0) (W:q<e) (K:fr<=q)
  (h1:L[qtE L q]?≠some 34->P (encA b (.error q))) (M:∀f,L[qtE L q]? = some 34->qtE L q<e->e+1-(qtE L q+1)<f->Wp (CT L b e f 3 fr q (qtE L q+1) x y ws) P):∀(f t:Nat),q+1<=t->t<=qtE L q->t<=e->e+1-t<f->Wp (CT L b e f 2 fr q t x y ws) P:=by
 have F:q+1<=L.length:=by omega
 have Y:=zBY qtB L (q+1) F;have U:qtE L q=q+1+rn qtB L (q+1):=rfl;have r:AV.qc [.qa,.agg [.int .i64 (Int.ofNat 5),.int .i64 (wrapx .i64 (Int.ofNat b+Int.ofNat q))]]=encA b (.error q):=by
  rw [wrb hl hb he (by omega)];rfl
 intro f
 induction f with
 | zero=>intro t _ _ _ h;omega
 | succ f T=>
  intro t R S Q X;by_cases u:t<e
  ·obtain ⟨j,J⟩:=zL8 hl hb he D u;refine zOo hl hb he u ?_
   have I:L[t]? = some L[t]:=QC j;have B:isAt qtB L t=qtB L[t]:=zA j;have A:t=qtE L q->qtB L[t]=false:=λ h=>by
    have:=zDQ qtB L _ (q+1) (QA _);have this:isAt qtB L (qtE L q)=false:=this
    rwa [←h,B] at this
   have z:qtB L[t]=false->t=qtE L q:=λ h=>by
    by_cases O:t<qtE L q
    ·have:=zCl (f:=qtB) (s:=L) (t-(q+1)) (q+1) (by omega)
     rw [show q+1+(t-(q+1))=t by omega,B] at this
     rw [this] at h;cases h
    ·omega
   generalize V:L[t]=d at *;rw [zD4,r];refine Wp.if (λ _=>Wp.if (λ h=>absurd ((beqN (y:=e)).1 h) (by omega)) λ _=>Wp.if (λ h=>?_) λ k=>?_) λ h=>by cases h
   ·have h:d=34:=(beqN (y:=34)).1 h;have G:=z (by rw [h];rfl)
    refine zMK hl hb he (by omega) ?_
    rw [G];exact M f (by rw [←G,I,h]) (by omega) (by omega)
   ·have k:d≠34:=(zBh (y:=34)).1 k;have bad:qtB d=false->P (encA b (.error q)):=λ h=>h1 (by rw [←z h,I];exact λ h=>k (Qg h))
    have H:∀E:Bool,E=!qtB d->Wp (zHg f L (Int.ofNat b) (Int.ofNat 2) (Int.ofNat fr) (Int.ofNat q) (Int.ofNat e) (Int.ofNat t) E x y (ws.map (wA b))) P:=λ E g=>by
     rw [zPe,r];refine Wp.if (λ h=>Wp.mk (bad (by rw [h] at g;simpa using g.symm))) λ h=>zMK hl hb he (by omega) (T (t+1) (by omega) ?_ (by omega) (by omega))
     have C:qtB d=true:=by rw [h] at g;simpa using g.symm
     have:t≠qtE L q:=λ h=>by rw [A h] at C;cases C
     omega
    refine Wp.ite (λ h=>H true ?_) λ h=>H _ ?_
    ·unfold qtB;rw [QG (by rw [qr] at h;omega)];rfl
    ·unfold qtB;rw [←decide_not];exact decide_eq_decide.2 (by rw [qr] at h ⊢;omega)
  ·have:t=e:=by omega
   subst this;refine zOp hl hb he ?_
   rw [zD4,r];refine Wp.if (λ _=>Wp.if (λ _=>Wp.mk (h1 ?_)) λ h=>absurd rfl (zBh.1 h)) λ h=>by cases h
   rcases zJm hl hb he D with h | h
   ·rw [Qs (by omega)];simp
   ·have:qtE L q=t:=by
     by_cases O:t<qtE L q
     ·have:=zCl (f:=qtB) (s:=L) (t-(q+1)) (q+1) (by omega)
      rw [show q+1+(t-(q+1))=t by omega] at this
      unfold isAt at this;rw [h] at this;cases this
     ·omega
    rw [this,h];simp
theorem zYa (h8:∀c∈L,c<256) {i q0:Nat} {x y:Int} {ws:List MW} (u:e=rn (λ c=>c != 35) L 0) (hi:i<e) (hws:ws.length<=65537) (ab:isAt plB L i=true)
  (h1:∀p,zCm L i=.error p->P (encA b (.error p))) (F:∀j w q f,zCm L i=.ok (j,w)->e+1-(j+1)<f->Wp (CT L b e f 0 i q (j+1) x y (ws++[w])) P):∀(f t:Nat),i<t->t<=plE L i->t<=e->e+1-t<f->Wp (CT L b e f 1 i q0 t x y ws) P:=by
 obtain ⟨p1,p2⟩:=zL6 (L:=L) (i:=i) (by omega)
 have H:∀{t},t<=plE L i->i<=t->L[t]? = some 35->t=plE L i:=λ{t} h1 F h=>by
  by_cases Y:t<plE L i
  ·have:=zP3 F Y;unfold isAt at this;rw [h] at this;cases this
  ·omega
 intro f
 induction f with
 | zero=>intro t _ _ _ h;omega
 | succ f ih=>
  intro t ag aa ac hf;by_cases I:t<e
  ·obtain ⟨D,X⟩:=zL8 hl hb he u I;have hL:L[t]? = some L[t]:=QC D;have S:isAt plB L t=plB L[t]:=zA D;have g:isAt enB L t=enB L[t]:=zA D;have O:t=plE L i->plB L[t]=false:=λ h=>by rw [←S,h];exact zSK L i
   have J:plB L[t]=false->t=plE L i:=λ h=>by
    by_cases Y:t<plE L i
    ·have:=zP3 (L:=L) (by omega:i<=t) Y
     rw [S] at this;rw [this] at h;cases h
    ·omega
   refine zOo hl hb he I ?_
   generalize hd:L[t]=d at *;by_cases K:d=32
   ·subst K;have A:=J rfl;have r:¬isQ L i:=λ h=>by
     have:=h.1;rw [←A,hL] at this;cases this
    have hw:zCm L i=.ok (t,⟨i,cutS L i t,keyT L i t,valT L i t,decide (eqE L i<t)⟩):=by
     unfold zCm;rw [if_neg r,←A,if_neg (show ¬isAt enB L t=true by rw [g];decide)]
    exact zML hl hb he (by omega) (.inl rfl) (by omega) hws rfl rfl (F t _ q0 f hw (by omega))
   ·refine zUu hl hb he (by omega) (by decide) K ?_
    rw [zHr];have M:isAt enB L t=true:=by rw [g];unfold enB;exact QI ⟨K,X⟩
    have B:¬isQ L i->t=plE L i->P (encA b (.error t)):=λ r A=>h1 t (by
     unfold zCm;rw [if_neg r,←A,if_pos M])
    refine Wp.ite (λ h=>Wp.mk ?_) λ ad=>Wp.if (λ h=>?_) λ _=>Wp.if (λ h=>by cases h) λ _=>Wp.if (λ h=>?_) λ E=>?_
    ·have A:=J (by unfold plB;exact QG (by omega))
     refine B (λ r=>?_) A
     have:=r.1;rw [←A,hL] at this;have:=Qg this;omega
    ·exact absurd ((beqN (y:=0)).1 h) (by decide)
    ·have E:d=34:=(beqN (y:=34)).1 h;have A:=J (by rw [E];rfl)
     have V:t-1<L.length:=by omega
     rw [zCk (by omega) (by omega)]
     refine Wp.bd (R:=λ c=>c=L[t-1]) ⟨_,zAw V,rfl⟩ λ c hc=>?_
     subst hc;have T:L[t-1]? = some L[t-1]:=QC V;refine Wp.if (λ h=>Wp.mk (B (λ r=>?_) A)) λ C=>Wp.gd ⟨QV _,Qi.2 (by omega),Qi.2 (by omega)⟩ ?_
     ·have h:(!(Int.ofNat L[t-1]==Int.ofNat 61))=true:=h;have h:L[t-1]≠61:=zBh.1 (by simpa using h)
      have e1:eqE L i=t-1:=by have:=r.2;omega
      have:=zL7 (L:=L) (i:=i) (by omega)
      rw [e1,T] at this;exact h (Qg this)
     ·have C:(!(Int.ofNat L[t-1]==Int.ofNat 61))=false:=C;have C:L[t-1]=61:=beqN.1 (by simpa using C)
      have U:List.drop (Int.toNat (Int.ofNat i)) (List.take (Int.toNat (Int.ofNat t)) L)=cutS L i t:=rfl;rw [U];have z:(cutS L i t).length=t-i:=by
       have:=zB4 (s:=L) (i:=i) (k:=t-i) (by omega)
       rwa [show i+(t-i)=t by omega] at this
      refine qk_i (zVL (cutS L i t) 61 (λ c hc=>h8 c (List.take_subset _ _ (List.drop_subset _ _ hc))) (by decide)) ?_
      have G:Sub L (cutS L i t) i:=⟨by rw [z];omega,λ k hk=>by
       rw [z] at hk;have:=zIT (s:=L) (i:=i) (k:=t-i) (j:=k) (by omega) hk
       rw [show i+(t-i)=t by omega] at this
       exact this.symm,hl⟩
      have W:rn (λ x=>x != 61) (cutS L i t) 0=eqE L i-i/\eqE L i<t:=by
       have hE:eqE L i<=t-1:=by
        by_cases h:t-1<eqE L i
        ·exact absurd (T.trans (congrArg some C)) (zUt (by omega) h)
        ·omega
       refine ⟨?_,by omega⟩
       have hr:=zBY (λ x=>x != 61) (cutS L i t) 0 (QP _)
       rw [QR,z] at hr;rcases Nat.lt_trichotomy (rn (λ x=>x != 61) (cutS L i t) 0) (eqE L i-i) with h | h | h
       ·exfalso
        have:=zDQ (λ x=>x != 61) (cutS L i t) _ 0 (QA _)
        rw [QR] at this;unfold isAt at this;rw [←G.eq _ (by rw [z];omega)] at this
        have h3:=zUt (L:=L) (i:=i) (t:=i+rn (λ x=>x != 61) (cutS L i t) 0) (by omega) (by omega)
        rw [QC (show i+rn (λ x=>x != 61) (cutS L i t) 0<L.length by omega)] at this h3
        simp at this;exact h3 (by rw [this])
       ·exact h
       ·exfalso
        have:=zCl (f:=λ x=>x != 61) (s:=cutS L i t) (eqE L i-i) 0 (by omega)
        have F:=zNS L i;rw [QR] at this;unfold isAt at this;rw [←G.eq _ (by rw [z];omega),show i+(eqE L i-i)=eqE L i by omega,zL7 (by omega)] at this
        cases this
      have af:=zNS L i;rw [W.1,if_pos (by rw [z];omega)]
      have e2:wrapx .i64 (Int.ofNat (t-1)-Int.ofNat i)=Int.ofNat (t-1-i):=by
       rw [zL (by rw [qr,qr];omega) (by rw [qr,qr];omega),qr,qr,qr];omega
      rw [e2];refine Wp.if (λ h=>Wp.mk (B (λ r=>?_) A)) λ h=>?_
      ·have h:(!(Int.ofNat (eqE L i-i)==Int.ofNat (t-1-i)))=true:=h;have h:=zBh.1 (show (Int.ofNat (eqE L i-i)==Int.ofNat (t-1-i))=false by simpa using h)
       have:=r.2;omega
      ·have h:(!(Int.ofNat (eqE L i-i)==Int.ofNat (t-1-i)))=false:=h;have h:=beqN.1 (show (Int.ofNat (eqE L i-i)==Int.ofNat (t-1-i))=true by simpa using h)
       have r:isQ L i:=⟨by rw [←A,hL,E],by omega⟩
       unfold zCm at h1 F;rw [if_pos r,←A] at h1 F;refine zMK hl hb he (by omega) (zVN hl hb he u I (by omega) (λ hc=>?_) (λ f hc ae hf=>?_) f (t+1) (QA _) (Qu _ _) (by omega) (by omega))
       ·exact h1 t (if_neg hc)
       ·obtain ⟨f,rfl⟩:∃k,f=k+1:=⟨f-1,by omega⟩
        rw [if_pos hc] at h1 F;have:t+1<=qtE L t:=by unfold qtE;omega
        exact zVM hl hb he u (by omega) (by omega) hws rfl rfl (λ g=>h1 _ (if_pos g)) λ g=>F _ _ t f (if_neg (show ¬isAt enB L (qtE L t+1)=true by rw [g];decide)) (by omega)
    ·have E:d≠34:=(zBh (y:=34)).1 E;refine zMK hl hb he (by omega) (ih (t+1) (by omega) ?_ (by omega) (by omega))
     have hp:plB d=true:=by unfold plB;exact QI (by omega)
     have:t≠plE L i:=λ h=>by rw [O h] at hp;cases hp
     omega
  ·have:t=e:=by omega
   subst this;have Q:t=plE L i:=by
    rcases zJm hl hb he u with h | h
    ·omega
    ·exact H aa (by omega) h
   have g:isAt enB L t=false:=by
    rcases zJm hl hb he u with h | h
    ·exact zBp h
    ·unfold isAt;rw [h];rfl
   have r:¬isQ L i:=λ h=>by
    have:=h.1;rw [←Q] at this;rcases zJm hl hb he u with h | h
    ·rw [Qs h] at this;cases this
    ·rw [h] at this;cases this
   have hw:zCm L i=.ok (t,⟨i,cutS L i t,keyT L i t,valT L i t,decide (eqE L i<t)⟩):=by
    unfold zCm;rw [if_neg r,←Q,if_neg (show ¬isAt enB L t=true by rw [g];decide)]
   exact zOp hl hb he (zML hl hb he (by omega) (.inl rfl) (by omega) hws rfl rfl (F t _ q0 f hw (by omega)))
theorem zUv (h8:∀c∈L,c<256) {x y:Int} (u:e=rn (λ c=>c != 35) L 0):∀(d i:Nat),e+1-i<=d->∀(f fr q m:Nat) (ws:List MW),i<=e+1->e+1-i<f->L.length-i<m->fr<=e->ws.length<=i->Wp (CT L b e f 0 fr q i x y ws) λ v=>v=encA b (if i<=e then zCd L m i ws else .ok ws):=by
 intro d
 induction d with
 | zero=>
  intro i hd f fr q m ws hi hf hm E hws;have:i=e+1:=by omega
  subst this;obtain ⟨f,rfl⟩:∃k,f=k+1:=⟨f-1,by omega⟩
  rw [if_neg (by omega)]
  exact zQy hl hb he rfl
 | succ d ih=>
  intro i hd f fr q m ws hi hf hm E hws;obtain ⟨f,rfl⟩:∃k,f=k+1:=⟨f-1,by omega⟩
  by_cases D:i<=e
  rotate_left
  ·have:i=e+1:=by omega
   subst this;rw [if_neg D];exact zQy hl hb he rfl
  rw [if_pos D];obtain ⟨m,rfl⟩:∃k,m=k+1:=⟨m-1,by omega⟩
  have blank:∀(i2 f2 q2:Nat),i2<=L.length->Wp (CT L b e f2 0 fr q2 (i2+1) x y ws) (λ v=>v=encA b (zCd L (m+1) i ws))->Wp (zCz f2 L (Int.ofNat b) (Int.ofNat 0) (Int.ofNat fr) (Int.ofNat q2) (Int.ofNat e) (Int.ofNat i2) (Int.ofNat 32) x y (ws.map (wA b))) λ v=>v=encA b (zCd L (m+1) i ws):=λ i2 f2 q2 h k=>by
   rw [zD4];exact Wp.if (λ h=>by cases h) λ _=>Wp.if (λ _=>Wp.if (λ h=>by cases h) λ _=>zMK hl hb he h k) λ h=>by cases h
  by_cases C:i<e
  ·obtain ⟨t,r⟩:=zL8 hl hb he u C;have W:L[i]? = some L[i]:=QC t;refine zOo hl hb he C ?_
   have T:¬(L.length<=i\/L[i]? = some 35):=by rw [W];rintro (h | h);omega;exact r (Qg h)
   by_cases A:L[i]=32
   ·rw [A];refine blank i f q (by omega) ?_
    rw [zCd,if_neg T,if_pos (by rw [W,A])]
    have:=ih (i+1) (by omega) f fr q m ws (by omega) (by omega) (by omega) E (by omega)
    rw [if_pos (by omega)] at this
    exact this
   ·have Q:L[i]?≠some 32/\L[i]?≠some 35:=by rw [W];exact ⟨λ h=>A (Qg h),λ h=>r (Qg h)⟩
    rw [zCd,if_neg T,if_neg Q.1];obtain ⟨p1,p2⟩:=zL6 (L:=L) (i:=i) (by omega)
    have I:isAt plB L i=plB L[i]:=zA t;have X:isAt enB L i=true:=by rw [zA t];unfold enB;exact QI ⟨A,r⟩
    have err:plB L[i]=false->zCm L i=.error i:=λ h=>by
     have Y:plE L i=i:=by unfold plE;rw [zFJ (by rw [I];exact h)];rfl
     have K:¬isQ L i:=λ K=>by have:=K.2;have:=zNS L i;omega
     unfold zCm;rw [if_neg K,Y,if_pos X]
    refine zUu hl hb he (by omega) (by decide) A ?_
    rw [zHr];refine Wp.ite (λ h=>Wp.mk ?_) λ h=>Wp.if (λ _=>Wp.if (λ z=>Wp.mk ?_) λ z=>?_) λ h=>by cases h
    ·rw [err (by unfold plB;exact QG (by omega))];rfl
    ·have z:L[i]=34:=(beqN (y:=34)).1 z;rw [err (by rw [z];rfl)];rfl
    ·have z:L[i]≠34:=(zBh (y:=34)).1 z;have F:isAt plB L i=true:=by rw [I];unfold plB;exact QI (by omega)
     refine zMK hl hb he (by omega) (zYa hl hb he h8 u C (by omega) F (λ p Y=>by rw [Y]) (λ j w q f' g V=>?_) f (i+1) (by omega) ?_ (by omega) (by omega))
     ·obtain ⟨j1,j2⟩:=zPa (Sub.self hl) t Q g;rw [g];show Wp _ λ v=>v=encA b (zCd L m j (ws++[w]))
      have ac:(ws++[w]).length<=j:=by rw [QH];show ws.length+1<=j;omega
      have B:isAt enB L j=false:=by
       unfold zCm at g;split at g
       ·split at g
        ·split at g
         ·cases g
         ·rename_i h;cases g;simpa using h
        ·cases g
       ·split at g
        ·cases g
        ·rename_i h;cases g;simpa using h
      have af:j<=e:=by
       by_cases h:j<=e
       ·exact h
       ·exfalso
        have ae:e<L.length:=by omega
        have r:L[e]? = some 35:=(zJm hl hb he u).resolve_left (by omega)
        unfold zCm at g;have U:¬(i<=e/\e<plE L i):=λ h=>by
         have:=zP3 (L:=L) h.1 h.2;unfold isAt at this;rw [r] at this;cases this
        split at g
        ·split at g
         ·rename_i K hc;split at g
          ·cases g
          ·cases g;have aa:qtE L (plE L i)≠e:=λ h=>by
            rw [h,r] at hc;cases hc
           have ad:plE L i≠e:=λ h=>by
            have:=K.1;rw [h,r] at this;cases this
           have ab:plE L i+1<=qtE L (plE L i):=by unfold qtE;omega
           have:=zCl (f:=qtB) (s:=L) (e-(plE L i+1)) (plE L i+1) (by unfold qtE at aa h ab;omega)
           rw [show plE L i+1+(e-(plE L i+1))=e by omega] at this
           unfold isAt at this;rw [r] at this;cases this
         ·cases g
        ·split at g
         ·cases g
         ·cases g;exact U ⟨D,by omega⟩
      obtain ⟨m,rfl⟩:∃k,m=k+1:=⟨m-1,by omega⟩
      have R:=λ m' h'=>ih (j+1) (by omega) f' i q m' (ws++[w]) (by omega) V h' (by omega) (by omega)
      by_cases J:j<e
      ·have:=R m (by omega)
       obtain ⟨M,H⟩:=zL8 hl hb he u J;have O:L[j]=32:=by
        rw [zA M] at B;have:=Qr B;omega
       have S:L[j]? = some L[j]:=QC M;rw [if_pos (by omega)] at this
       rw [zCd,if_neg (by rw [S];rintro (h | h);omega;exact H (Qg h)),if_pos (by rw [S,O])]
       exact this
      ·have G:j=e:=by omega
       subst G;have:=R (L.length+1) (by omega)
       rw [if_neg (by omega)] at this
       rw [zCd,if_pos (zJm hl hb he u)];exact this
     ·by_cases h:i<plE L i
      ·omega
      ·exfalso
       have e1:plE L i=i:=by omega
       have:=zSK L i;rw [e1,F] at this;cases this
  ·have:i=e:=by omega
   subst this;refine zOp hl hb he (blank i f q (by omega) ?_)
   rw [zCd,if_pos (zJm hl hb he u)];obtain ⟨f,rfl⟩:∃k,f=k+1:=⟨f-1,by omega⟩
   exact zQy hl hb he rfl
end
theorem zYW {L:List Nat} {b:Nat} (hl:L.length<=65536) (hb:b<=1000000) (h8:∀c∈L,c<256):zGz L (Int.ofNat b)=some (encA b (zCd L (L.length+1) 0 [])):=by
 have j:=zBY (λ c=>c != 35) L 0 (QP _)
 rw [QR] at j;have go:zHi L (Int.ofNat b) (Int.ofNat 0) (Int.ofNat 0) (Int.ofNat 0) (Int.ofNat (rn (λ c=>c != 35) L 0)) (Int.ofNat 0) (Int.ofNat 0)=some (encA b (zCd L (L.length+1) 0 [])):=by
  refine zi ?_
  rw [zPf];have:=zUv hl hb j h8 (x:=Int.ofNat 0) (y:=Int.ofNat 0) rfl (rn (λ c=>c != 35) L 0+1) 0 (by omega) FUEL 0 0 (L.length+1) [] (by omega) (by have:=zC (n:=65538) (by omega);omega) (by omega) (QP _) (QA _)
  rw [if_pos (QP _)] at this;exact this
 refine zi ?_
 rw [zRr];have g:∀{n:Int},zAG L (Int.ofNat 35)=some (.int .i64 n)->zJw L=some (.int .i64 n):=λ h=>by
  rw [zPc,h];rfl
 have d:=zVL L 35 h8 (by decide)
 by_cases h:rn (λ x=>x != 35) L 0<L.length
 ·rw [if_pos h] at d;exact qk_i (g d) (Wp.ite (λ _=>⟨_,go,rfl⟩) λ h=>absurd (QV _) h)
 ·rw [if_neg h] at d;have e:rn (λ c=>c != 35) L 0=L.length:=by omega
  rw [e] at go;exact qk_i (g d) (Wp.ite (λ h=>absurd h (by decide)) λ _=>⟨_,go,rfl⟩)
end Go.Proofs.YtdeeimaahdgeaaaGreatDoor.spec
namespace Go.Proofs.YtdeeimaahdgeaaaGreatDoor.spec
open Go Go.Sy
variable [MX]
theorem zTN {α:Type} (f:α->Bool):∀(l:List α) (n:Nat),((l.take n).takeWhile f).length=min n (l.takeWhile f).length
 | [],n=>by simp
 | a::r,0=>by simp
 | a::r,n+1=>by
  have d:=zTN f r n;rw [List.take_succ_cons];cases h:f a with
  | true=>rw [List.takeWhile_cons_of_pos h,List.takeWhile_cons_of_pos h,QT,QT,d];omega
  | false=>rw [List.takeWhile_cons_of_neg (by rw [h];decide),List.takeWhile_cons_of_neg (by rw [h];decide)];simp
theorem zVO (f:Nat->Bool) (L:List Nat) (i k:Nat):rn f (cutS L i (i+k)) 0=min k (rn f L i):=by
 unfold rn cutS;rw [List.drop_zero,List.drop_take,show i+k-i=k by omega,zTN]
theorem zOq (c:Nat):∀l:List Nat,cut1 c l=if rn (λ x=>x != c) l 0<l.length then (l.take (rn (λ x=>x != c) l 0),l.drop (rn (λ x=>x != c) l 0+1),true) else (l,[],false)
 | []=>rfl
 | x::r=>by
  have g:=zOq c r;rw [cut1];cases h:Nat.beq x c with
  | true=>
   have:=zb h;have j:rn (λ x=>x != c) (x::r) 0=0:=zFJ (by unfold isAt;simp [this])
   rw [j,if_pos (by simp)]
   rfl
  | false=>
   have:=zAH h;have hs:rn (λ x=>x != c) (x::r) 0=rn (λ x=>x != c) r 0+1:=by
    unfold rn;rw [List.drop_zero,List.drop_zero,List.takeWhile_cons_of_pos (by simpa using this)]
    rfl
   rw [hs,g];by_cases d:rn (λ x=>x != c) r 0<r.length
   ·rw [if_pos d,if_pos (by simp;omega)]
    simp
   ·rw [if_neg d,if_neg (by simp;omega)]
structure WdOK (w:MW):Prop where
 val:zDR w.raw=some (.qc [.str w.key,.str w.val,.bool w.gv])
 rl:w.raw.length<=65536
 kl:w.key.length<=65536
 vl:w.val.length<=65536
 v8:∀c∈w.val,c<256
 no:w.gv=false->w.raw=w.key
 yes:w.gv=true->61∈w.raw
theorem zSL {L:List Nat} {i j c:Nat} (h:c∈cutS L i j):c∈L:=List.take_subset _ _ (List.drop_subset _ _ h)
theorem zTb {raw key val:List Nat} {gv:Bool} (hl:raw.length<=65536) (hc:cut1 61 raw=(key,val,gv)) (j:∀c∈val,c≠34):zDR raw=some (.qc [.str key,.str val,.bool gv]):=by
 refine zi ?_
 rw [zLv];have d:zJx raw [61]=some (.qc [.str key,.str val,.bool gv]):=by
  show cutG [.str raw,.str [61]]=_
  unfold cutG;have:(Nat.blt raw.length 4294967281&&Nat.blt 61 256)=true:=by rw [QB,Qm,Qm];omega
  simp only [this,hc]
 have g:zEr key val gv false=some (.qc [.str key,.str val,.bool gv]):=by
  rw [zJo];show zFZ _ _ _=_
  rw [zJn]
 refine zMA d (Wp.ite (λ h=>?_) λ _=>⟨_,g,rfl⟩)
 cases val with
 | nil=>exact absurd h (by decide)
 | cons c r=>
  have h0:ixN (c::r) 0=some c:=rfl;rw [h0];refine Wp.if (λ h=>absurd ((beqN (y:=34)).1 h) (j c (.head _))) λ _=>⟨_,g,rfl⟩
theorem zSM {raw key val:List Nat} (hl:raw.length<=65536) (hc:cut1 61 raw=(key,34::(val++[34]),true)):zDR raw=some (.qc [.str key,.str val,.bool true]):=by
 have q:val.length<=65536:=by
  have g:=zOq 61 raw;rw [hc] at g;split at g
  ·have:=congrArg (λ x=>x.2.1.length) g
   simp only [QT,QH,Qk,Qj] at this;omega
  ·cases g
 refine zi ?_
 rw [zLv];have j:zJx raw [61]=some (.qc [.str key,.str (34::(val++[34])),.bool true]):=by
  show cutG [.str raw,.str [61]]=_
  unfold cutG;have:(Nat.blt raw.length 4294967281&&Nat.blt 61 256)=true:=by rw [QB,Qm,Qm];omega
  simp only [this,hc]
 have d:(34::(val++[34])).length=val.length+2:=by simp
 have k:wrapx .i64 (Int.ofNat (34::(val++[34])).length-1)=Int.ofNat (val.length+1):=by rw [d];exact zCk (by omega) (by omega)
 refine zMA j (Wp.ite (λ _=>?_) λ h=>absurd (show Int.ofNat (34::(val++[34])).length>=2 by rw [d,qr];omega) h)
 have h0:ixN (34::(val++[34])) 0=some 34:=rfl;have g:ixN (34::(val++[34])) (Int.ofNat (val.length+1))=some 34:=by
  show (34::(val++[34]))[val.length+1]? = some 34
  simp
 rw [h0,k,g];refine Wp.bd (R:=λ c=>c=34) ⟨_,rfl,rfl⟩ λ c hc=>?_
 subst hc;refine Wp.if (λ _=>Wp.bd (R:=λ c=>c=34) ⟨_,rfl,rfl⟩ λ c hc=>?_) λ h=>by cases h
 subst hc;rw [zJo,k];refine Wp.if (λ _=>Wp.gd ⟨by decide,by rw [qr];omega,Qi.2 (by rw [d];omega)⟩ ?_) λ h=>by cases h
 have e:List.drop (Int.toNat 1) (List.take (Int.toNat (Int.ofNat (val.length+1))) (34::(val++[34])))=val:=by
  show List.drop 1 (List.take (val.length+1) (34::(val++[34])))=val
  simp
 rw [e,zJn];exact Wp.mk rfl
theorem zYb {L:List Nat} (hl:L.length<=65536) (h8:∀c∈L,c<256) {i j:Nat} {w:MW} (O:i<L.length) (h:zCm L i=.ok (j,w)):WdOK w:=by
 obtain ⟨M,H⟩:=zL6 (L:=L) (i:=i) (by omega)
 have C:=zNS L i;have d:∀a b,(cutS L a b).length<=65536:=λ a b=>by have:=zQx L a b;omega
 unfold zCm at h;split at h
 ·rename_i G;split at h
  ·rename_i hc;split at h
   ·cases h
   ·cases h;have A:=zCg hc;have K:plE L i+1<=qtE L (plE L i):=by unfold qtE;omega
    have I:=G.2;have r:cut1 61 (cutS L i (qtE L (plE L i)+1))=(cutS L i (eqE L i),34::(cutS L (plE L i+1) (qtE L (plE L i))++[34]),true):=by
     rw [zOq];have F:rn (λ x=>x != 61) (cutS L i (qtE L (plE L i)+1)) 0=eqE L i-i:=by
      have:=zVO (λ x=>x != 61) L i (qtE L (plE L i)+1-i)
      rw [show i+(qtE L (plE L i)+1-i)=qtE L (plE L i)+1 by omega] at this
      rw [this];unfold eqE at C I ⊢;omega
     have g:(cutS L i (qtE L (plE L i)+1)).length=qtE L (plE L i)+1-i:=by
      have:=zB4 (s:=L) (i:=i) (k:=qtE L (plE L i)+1-i) (by omega)
      rwa [show i+(qtE L (plE L i)+1-i)=qtE L (plE L i)+1 by omega] at this
     rw [F,if_pos (by rw [g];omega)]
     have t1:List.take (eqE L i-i) (cutS L i (qtE L (plE L i)+1))=cutS L i (eqE L i):=by
      unfold cutS;rw [List.take_drop,List.take_take,show i+(eqE L i-i)=eqE L i by omega,Nat.min_eq_left (by omega)]
     have t2:List.drop (eqE L i-i+1) (cutS L i (qtE L (plE L i)+1))=cutS L (plE L i) (qtE L (plE L i)+1):=by
      unfold cutS;rw [List.drop_drop,show i+(eqE L i-i+1)=plE L i by omega]
     have E:plE L i<L.length:=by omega
     have u:L[plE L i]=34:=by
      have:=G.1;rw [QC E] at this;exact Qg this
     have B:L[qtE L (plE L i)]=34:=by
      rw [QC A] at hc;exact Qg hc
     have t3:cutS L (plE L i) (qtE L (plE L i)+1)=34::(cutS L (plE L i+1) (qtE L (plE L i))++[34]):=by
      rw [zLs (by omega) A,B]
      have:cutS L (plE L i) (qtE L (plE L i))=34::cutS L (plE L i+1) (qtE L (plE L i)):=by
       unfold cutS;rw [QZ (by rw [Qe];omega)]
       congr 1;rw [List.getElem_take,u]
      rw [this];rfl
     rw [t1,t2,t3]
    refine ⟨zSM (d _ _) r,d _ _,d _ _,d _ _,λ c hc=>h8 c (zSL hc),λ h=>(by cases h),λ _=>?_⟩
    have q:=zL7 (L:=L) (i:=i) (by omega)
    have t:(cutS L i (i+(qtE L (plE L i)+1-i)))[eqE L i-i]? = some 61:=by
     rw [zIT (by omega) (by omega),show i+(eqE L i-i)=eqE L i by omega,q]
    rw [show i+(qtE L (plE L i)+1-i)=qtE L (plE L i)+1 by omega] at t
    exact QE t
  ·cases h
 ·split at h
  ·cases h
  ·cases h;have g:(cutS L i (plE L i)).length=plE L i-i:=by
    have:=zB4 (s:=L) (i:=i) (k:=plE L i-i) (by omega)
    rwa [show i+(plE L i-i)=plE L i by omega] at this
   have F:rn (λ x=>x != 61) (cutS L i (plE L i)) 0=min (plE L i-i) (eqE L i-i):=by
    have:=zVO (λ x=>x != 61) L i (plE L i-i)
    rw [show i+(plE L i-i)=plE L i by omega] at this
    rw [this];unfold eqE;omega
   have D:∀c∈cutS L i (plE L i),c≠34:=λ c hc e=>by
    have:=zHo (f:=plB) (s:=L) (i:=i) (k:=rn plB L i) H (QA _) c hc;rw [e] at this;cases this
   have z:cut1 61 (cutS L i (plE L i))=(keyT L i (plE L i),valT L i (plE L i),decide (eqE L i<plE L i)):=by
    rw [zOq,F];unfold keyT valT;by_cases he:eqE L i<plE L i
    ·rw [if_pos (by rw [g];omega),if_pos he,QI he,Nat.min_eq_right (by omega:eqE L i-i<=plE L i-i),Nat.min_eq_right (by omega:eqE L i<=plE L i)]
     have t1:List.take (eqE L i-i) (cutS L i (plE L i))=cutS L i (eqE L i):=by
      unfold cutS;rw [List.take_drop,List.take_take,show i+(eqE L i-i)=eqE L i by omega,Nat.min_eq_left (by omega)]
     have t2:List.drop (eqE L i-i+1) (cutS L i (plE L i))=cutS L (eqE L i+1) (plE L i):=by
      unfold cutS;rw [List.drop_drop,show i+(eqE L i-i+1)=eqE L i+1 by omega]
     rw [t1,t2]
    ·rw [if_neg (by rw [g];omega),if_neg he,QG he,Nat.min_eq_left (by omega:plE L i<=eqE L i)]
   have J:∀c∈valT L i (plE L i),c≠34:=λ c hc=>by
    unfold valT at hc;split at hc
    ·refine D c ?_
     have e:cutS L (eqE L i+1) (plE L i)=List.drop (eqE L i+1-i) (cutS L i (plE L i)):=by
      unfold cutS;rw [List.drop_drop,show i+(eqE L i+1-i)=eqE L i+1 by omega]
     rw [e] at hc;exact List.drop_subset _ _ hc
    ·cases hc
   refine ⟨zTb (d _ _) z J,d _ _,?_,?_,λ c hc=>?_,λ h=>?_,λ h=>?_⟩
   ·exact d _ _
   ·show (valT L i (plE L i)).length<=_
    unfold valT;split
    ·exact d _ _
    ·exact QP _
   ·have hc:c∈valT L i (plE L i):=hc;unfold valT at hc;split at hc
    ·exact h8 c (zSL hc)
    ·cases hc
   ·have h:=Qr h;show cutS L i (plE L i)=keyT L i (plE L i)
    unfold keyT;rw [Nat.min_eq_left (by omega)]
   ·have h:=QS h;have q:=zL7 (L:=L) (i:=i) (by omega)
    have t:(cutS L i (i+(plE L i-i)))[eqE L i-i]? = some 61:=by
     rw [zIT (by omega) (by omega),show i+(eqE L i-i)=eqE L i by omega,q]
    rw [show i+(plE L i-i)=plE L i by omega] at t
    exact QE t
theorem zWK {L:List Nat} (hl:L.length<=65536) (h8:∀c∈L,c<256):∀(m i:Nat) (acc ws:List MW),i<=L.length->acc.length<=i->(∀w∈acc,WdOK w/\w.p<=L.length)->zCd L m i acc=.ok ws->(∀w∈ws,WdOK w/\w.p<=L.length)/\ws.length<=L.length:=by
 intro m
 induction m with
 | zero=>intro i acc ws z A q h;cases h;exact ⟨q,by omega⟩
 | succ m u=>
  intro i acc ws z A q h;rw [zCd] at h;split at h
  ·cases h;exact ⟨q,by omega⟩
  rename_i k;have g:i<L.length:=by
   by_cases h:L.length<=i
   ·exact absurd (.inl h) k
   ·omega
  split at h
  ·exact u (i+1) acc ws g (by omega) q h
  ·rename_i t;split at h
   ·cases h
   ·rename_i j w d;obtain ⟨g1,g2⟩:=zPa (Sub.self hl) g ⟨t,λ h=>k (.inr h)⟩ d
    refine u j (acc++[w]) ws g2 (by rw [QH];show acc.length+1<=j;omega) (λ x r=>?_) h
    rcases QK.1 r with r | r
    ·exact q x r
    ·rw [Qc.1 r];refine ⟨zYb hl h8 g d,?_⟩
     have:w.p=i:=by
      unfold zCm at d;split at d
      ·split at d
       ·split at d <;> cases d;rfl
       ·cases d
      ·split at d <;> cases d;rfl
     omega
theorem zNV (x a b:Int):zCC x a b=some (.bool (decide (a<=x)&&decide (x<=b))):=by
 refine zi ?_
 rw [zPk];refine Wp.ite (λ h=>Wp.mk ?_) λ h=>Wp.mk ?_
 ·rw [QI (show a<=x from h)];rfl
 ·rw [QG (show ¬a<=x from h)];rfl
theorem zOr {l:List AV} {n i:Nat} {x:Int} (g:l[i]? = some (.int .i64 x)) (h:i<4):zAl (n+1) l (Int.ofNat i)=if 0<=x/\x<=1099511627776 then zAl n l (Int.ofNat (i+1)) else some (.int .i64 2):=by
 rw [zEz,zLY,g,zc (by omega),QI (show Int.ofNat i<4 by rw [qr];omega)]
 show br (decide (x<0)) _ (br (decide (x > 1099511627776)) _ _)=_
 by_cases h0:x<0
 ·rw [QI h0,if_neg (by omega)];rfl
 ·rw [QG h0];by_cases d:x > 1099511627776
  ·rw [QI d,if_neg (by omega)];rfl
  ·rw [QG d,if_pos (by omega)];rfl
theorem zVP (a b c d:Int):zDj a b c d=some (.bool (decide (okA a b c d)&&!(a==0&&(b==0&&(c==0&&d==0))))):=by
 have r:∀{l:List AV},l=[.int .i64 a,.int .i64 b,.int .i64 c,.int .i64 d]->zAl FUEL l (Int.ofNat 0)=some (.int .i64 (if okA a b c d then 0 else 2)):=λ{l} hl=>by
  rw [show FUEL=1180591620717411303419+1+1+1+1+1 from zER,zOr (x:=a) (by rw [hl];rfl) (by omega),zOr (x:=b) (by rw [hl];rfl) (by omega),zOr (x:=c) (by rw [hl];rfl) (by omega),zOr (x:=d) (by rw [hl];rfl) (by omega),zEz,QG (show ¬Int.ofNat (3+1)<4 by decide)]
  by_cases h:okA a b c d
  ·obtain ⟨j,g,k,q⟩:=h;rw [if_pos j,if_pos g,if_pos k,if_pos q,if_pos ⟨j,g,k,q⟩];rfl
  ·rw [if_neg h];by_cases j:0<=a/\a<=1099511627776
   ·rw [if_pos j];by_cases g:0<=b/\b<=1099511627776
    ·rw [if_pos g];by_cases k:0<=c/\c<=1099511627776
     ·rw [if_pos k,if_neg λ q=>h ⟨j,g,k,q⟩]
     ·rw [if_neg k]
    ·rw [if_neg g]
   ·rw [if_neg j]
 have t:zD2 a b c d=some (.int .i64 (if okA a b c d then 0 else 2)):=by
  rw [zJv,zJK];exact r rfl
 rw [zIE,t];by_cases h:okA a b c d
 ·rw [if_pos h,QI h];rfl
 ·rw [if_neg h,QG h];rfl
theorem zYc (bd:Int):∃s,zBs bd=some (.str s)/\seqb s []=!(decide (0<=bd)&&decide (bd<=3)):=by
 by_cases h0:bd<0
 ·exact ⟨[],by rw [zC3,QI h0];rfl,by rw [QG (show ¬0<=bd by omega)];rfl⟩
 by_cases d:bd > 3
 ·exact ⟨[],by rw [zC3,QG h0,QI d];rfl,by rw [QG (show ¬bd<=3 by omega),Bool.and_false];rfl⟩
 have e:zBs bd=dK true [K.s] (ixN [AV.str [102,114,101,101],AV.str [98,97,116,99,104],AV.str [112,114,111,100],AV.str [109,111,110,105,116,111,114,105,110,103]] bd) λ s=>some (.str s):=by
  rw [zC3,QG h0,QG d,zE9];rfl
 rw [QI (show 0<=bd by omega),QI (show bd<=3 by omega),e]
 obtain rfl | rfl | rfl | rfl:bd=0\/bd=1\/bd=2\/bd=3:=by omega
 ·exact ⟨_,rfl,rfl⟩
 ·exact ⟨_,rfl,rfl⟩
 ·exact ⟨_,rfl,rfl⟩
 ·exact ⟨_,rfl,rfl⟩
theorem br_b {β:Type} {b:Bool} {x y:Option β}:br b x y=if b=true then x else y:=by cases b <;> rfl
theorem zYX (d:List AV) (h:NdL d) (hl:d.length<=2000000):∃b:Bool,zKP d=some (.bool b)/\zAX d [nd6 (Int.ofNat 1) [] [] (Int.ofNat 0) (Int.negSucc 0) (Int.negSucc 0)]=some (.bool b):=by
 have g:NdL [nd6 (Int.ofNat 1) [] [] (Int.ofNat 0) (Int.negSucc 0) (Int.negSucc 0)]:=λ e he=>by rw [Qc] at he;exact ⟨_,_,_,_,_,_,he⟩
 refine ⟨_,?_,zP2 _ _ h g hl⟩
 rw [zQe,zGU];show dK false [K.b] (zT d [nd6 (Int.ofNat 1) [] [] (Int.ofNat 0) (Int.negSucc 0) (Int.negSucc 0)]) _=_
 rw [zSF _ _ h g hl];rfl
theorem zUw:zBU=some (.agg [.ql 6 [nd6 (Int.ofNat 1) [] [] (Int.ofNat 0) (Int.negSucc 0) (Int.negSucc 0)]]):=by rw [zKf]
theorem zYY {β:Type} {wk:Bool} {es:List AV} {f:List AV->Option β}:dK wk [K.agg 1,K.l 6] (some (.agg [.ql 6 es])) f=f es:=rfl
theorem zP5 (k:Int) (u us:List Nat) (bd g q:Int) (d:List Nat) (x1 j x3 x4:Int) (t:List AV) (r c0:Int) (h1:u.length<=2000000) (T:us.length<=2000000) (O:d.length<=2000000) (hN:NdL t) (hl:t.length<=2000000) (hc:zEW t=some (.int .i64 c0)) (W:zAf t=some (.int .i64 c0)):
  ∃n,zIg k u us bd g q d x1 j x3 x4 t r=some (.int .i64 n)/\zCq k u us bd g q d x1 j x3 x4 t r=some (.int .i64 n)/\(n=0\/n=2):=by
 have a1:=zL5 u h1;have a2:=zL5 us T;have a3:=zL5 d O;have b1:=zGb u h1;have X:=zGb us T;have M:=zGb d O;have eA:=zQr x1 j x3 x4;have gA:=zVP x1 j x3 x4;obtain ⟨bs,E,B⟩:=zYc bd;obtain ⟨an,z,J⟩:=zYX t hN hl;generalize zAN 16 u=C at *;generalize zAN 16 us=K at *;generalize zAN 16 d=N3 at *;have neg:∀b:Bool,(match true with | true=>!b | false=>b:Bool)=!b:=λ _=>rfl
 have L:zIg k u us bd g q d x1 j x3 x4 t r=zEu (C&&(decide (okA x1 j x3 x4)&&!(x1==0&&(j==0&&(x3==0&&x4==0))))) k u us bd g q d x1 j x3 x4 t r:=by
  rw [zQf,a1,eA];cases C
  ·rfl
  ·by_cases h:okA x1 j x3 x4
   ·rw [if_pos h,QI h];rfl
   ·rw [if_neg h,QG h];rfl
 have R:zCq k u us bd g q d x1 j x3 x4 t r=br (C&&(decide (okA x1 j x3 x4)&&!(x1==0&&(j==0&&(x3==0&&x4==0))))) (zAW (decide (1<=g)&&decide (g<=64)) k u us bd g q d x1 j x3 x4 t r) (some (.int .i64 2)):=by
  have j0:zC0 k u us bd g q d x1 j x3 x4 t r=zAW (decide (1<=g)&&decide (g<=64)) k u us bd g q d x1 j x3 x4 t r:=by
   rw [zIv];by_cases h:1<=g
   ·rw [QI h];rfl
   ·rw [QG h];rfl
  rw [zFc,b1,gA,←j0];cases C
  ·rfl
  ·cases (decide (okA x1 j x3 x4)&&!(x1==0&&(j==0&&(x3==0&&x4==0)))) <;> rfl
 rw [L,R];generalize (C&&(decide (okA x1 j x3 x4)&&!(x1==0&&(j==0&&(x3==0&&x4==0)))))=f0;have F:∀b,zl b=some (.int .i64 (if b=true then 0 else 2)):=λ b=>by rw [zNY];cases b <;> rfl
 have G:∀b,zf b=some (.int .i64 (if b=true then 0 else 2)):=λ b=>by rw [zIs];cases b <;> rfl
 have D:(decide (Int.ofNat 1<=g)&&decide (g<=Int.ofNat 64))=(decide (1<=g)&&decide (g<=64)):=rfl;have A:(decide (Int.ofNat 0<=bd)&&decide (bd<=Int.ofNat 3))=(decide (0<=bd)&&decide (bd<=3)):=rfl;rw [zN0,zIu];have key:∀o p:Option AV,o=p->(∃n,p=some (.int .i64 n)/\(n=0\/n=2))->∃n,o=some (.int .i64 n)/\p=some (.int .i64 n)/\(n=0\/n=2):=λ o p h ⟨n,e,hn⟩=>⟨n,h.trans e,e,hn⟩
 have S:∀b,zp b k u us bd g q d x1 j x3 x4 t r=some (.int .i64 (if (b&&(seqb d []||an))=true then 0 else 2)):=λ b=>by
  rw [zIt,zUw];simp only [zYY,J,ek_b,G,br_b];cases seqb d [] <;> cases an <;> cases b <;> rfl
 by_cases V:k=1
 ·subst V;simp only [zJq,a2,a3,X,M,zNV,ek_b,ek_i,ek_s,hc,W,E,B,z,F,S,br_b,D,A];generalize (decide (0<=bd)&&decide (bd<=3))=g1;generalize (decide (1<=g)&&decide (g<=64))=g2;have I:(decide (Int.ofNat 1<=q)&&decide (q<=g))=(decide (q>=1)&&decide (q<=g)):=rfl;rw [I];generalize decide (q>=1)=g3;generalize decide (q<=g)=g4;generalize (r==0)=g5;generalize (c0==0)=g6;generalize seqb d []=g7;cases f0 <;> cases K <;> cases g1 <;> cases g2 <;> cases g3 <;> cases g4 <;> cases g5 <;> first | exact ⟨_,rfl,rfl,.inr rfl⟩ | (cases g6 <;> cases g7 <;> cases N3 <;> cases an <;> first | exact ⟨_,rfl,rfl,.inr rfl⟩ | exact ⟨_,rfl,rfl,.inl rfl⟩)
 by_cases Q:k=2
 ·subst Q;simp only [zJq,a2,a3,X,M,zNV,ek_b,ek_i,ek_s,hc,W,E,B,z,F,G,S,br_b,D,A];generalize (decide (0<=bd)&&decide (bd<=3))=g1;generalize (decide (1<=g)&&decide (g<=64))=g2;generalize (q==0)=g3;generalize (r==0)=g5;generalize (c0==0)=g6;generalize seqb d []=g7;cases f0 <;> cases K <;> cases g1 <;> cases g2 <;> cases g3 <;> cases g5 <;> cases g6 <;> cases g7 <;> first | exact ⟨_,rfl,rfl,.inr rfl⟩ | exact ⟨_,rfl,rfl,.inl rfl⟩
 by_cases U:k=3
 ·subst U;simp only [zNV,ek_b,F,G,br_b];have H:(decide (Int.ofNat 1<=r)&&decide (r<=Int.ofNat 64))=(decide (r>=1)&&decide (r<=64)):=rfl;rw [H];generalize decide (r>=1)=g1;generalize decide (r<=64)=g2;generalize (bd==0)=g3;generalize (g==0)=g4;generalize (q==0)=g5;generalize seqb us []=g6;generalize seqb d []=g7;generalize (Int.ofNat t.length==0)=g8;cases f0 <;> cases g6 <;> cases g3 <;> cases g4 <;> cases g5 <;> cases g7 <;> cases g8 <;> cases g1 <;> cases g2 <;> first | exact ⟨_,rfl,rfl,.inr rfl⟩ | exact ⟨_,rfl,rfl,.inl rfl⟩
 have Y:(k==1)=false:=beq_eq_false_iff_ne.2 V;have e2:(k==2)=false:=beq_eq_false_iff_ne.2 Q;have e3:(k==3)=false:=beq_eq_false_iff_ne.2 U;rw [Y,e2,e3];simp only [F,G,br_b];cases f0 <;> exact ⟨_,rfl,rfl,.inr rfl⟩
def mapN (ns:List (List Nat)):List (AV×AV):=ns.map λ s=>(.str s,.bool true)
theorem zLE (s:List Nat):∀ns:List (List Nat),mfind false [Kd.s] (.str s) (mapN ns)=if s∈ns then some (some (.bool true)) else some none
 | []=>rfl
 | t::ns=>by
  have h:=zLE s ns;show (match some (seqb s t) with
   | some true=>some (some (AV.bool true))
   | some false=>mfind false [Kd.s] (.str s) (mapN ns)
   | none=>none)=_
  rw [zK];by_cases e:s=t
  ·subst e;simp
  ·simp only [e,decide_false,QJ,false_or];exact h
theorem zSN (s:List Nat):∀ns:List (List Nat),s ∉ ns->mput false [Kd.s] (.str s) (.bool true) (mapN ns)=some (mapN (ns++[s]))
 | [],_=>rfl
 | t::r,h=>by
  have g:=zSN s r λ k=>h (.tail _ k)
  have d:seqb s t=false:=by
   cases e:seqb s t with
   | false=>rfl
   | true=>exact absurd (.head _) (zKj e▸h)
  have j:seqb t s=false:=by
   cases e:seqb t s with
   | false=>rfl
   | true=>exact absurd (.head _) (zKj e▸h)
  unfold mapN at g ⊢;have e:eqb Kd.s (.str s) (.str t)=some (seqb s t):=rfl;simp only [Qd,List.cons_append,mput,eqk,e,d,g]
theorem zYd (s:List Nat) (ns:List (List Nat)) (h:s ∉ ns):lkR false (AV.bool false) (mfind false [Kd.s] (.str s) (mapN ns))=some (.bool false):=by
 rw [zLE,if_neg h];rfl
theorem zWL (s:List Nat) (ns:List (List Nat)) (h:s∈ns):lkR false (AV.bool false) (mfind false [Kd.s] (.str s) (mapN ns))=some (.bool true):=by
 rw [zLE,if_pos h];rfl
structure S13 where
 (k:Int) (n u:List Nat) (b c d:Int) (i:List Nat) (x1 x2 x3 x4:Int) (r:List AV) (ba:Int)
abbrev S13.cells (s:S13):List AV:=[.int .i64 s.k,.str s.n,.str s.u,.int .i64 s.b,.int .i64 s.c,.int .i64 s.d,.str s.i,.int .i64 s.x1,.int .i64 s.x2,.int .i64 s.x3,.int .i64 s.x4,.ql 6 s.r,.int .i64 s.ba]
abbrev S13.vy (s:S13) (v:List Nat):List AV:=[.int .i64 s.k,.str s.n,.str s.u,.int .i64 s.b,.int .i64 s.c,.int .i64 s.d,.str s.i,.int .i64 s.x1,.int .i64 s.x2,.int .i64 s.x3,.int .i64 s.x4,.ql 6 s.r,.int .i64 s.ba,.str v]
abbrev ob (l:List AV):Heap:=[(0,.cells false l)]
theorem qd13 {β:Type} {wk:Bool} {P:β->Prop} {f:Bool->Int->List Nat->List Nat->Int->Int->Int->List Nat->Int->Int->Int->Int->List AV->Int->Option β} {o:Option (AV×Heap×Vecs)} {y:Bool} {s:S13} (h:o=some (.bool y,ob s.cells,[])) (q:Wp (f y s.k s.n s.u s.b s.c s.d s.i s.x1 s.x2 s.x3 s.x4 s.r s.ba) P):Wp (dD wk [D.v K.b,D.hc 0 false 13,D.v (K.i IntKind.i64),D.v K.s,D.v K.s,D.v (K.i IntKind.i64),D.v (K.i IntKind.i64),D.v (K.i IntKind.i64),D.v K.s,D.v (K.i IntKind.i64),D.v (K.i IntKind.i64),D.v (K.i IntKind.i64),D.v (K.i IntKind.i64),D.v (K.l 6),D.v (K.i IntKind.i64)] o f) P:=by
 subst h;exact q
def RuOK (r:List AV):Prop:=NdL r/\r.length<=64/\∃c0,zEW r=some (.int .i64 c0)/\zAf r=some (.int .i64 c0)
theorem RuOK.fl {t:RT} (g:t.wf) (d:t.size<=64):RuOK (t.fl 0):=⟨zJl t 0,by rw [RT.fl_length];exact d,chkR t,zRq t g d,zSI t g d⟩
structure Inv (s:S13):Prop where
 hn:s.n.length<=65536
 hu:s.u.length<=65536
 hi:s.i.length<=65536
 hr:RuOK s.r
def qN (key:List Nat):Nat:=if key=[117,115,101,114] then 83 else if key=[98,97,110,100] then 84 else if key=[99,111,117,110,116] then 85 else if key=[100,111,119,110] then 86 else if key=[105,110] then 87 else if key=[99,112,117] then 88 else if key=[114,97,109] then 89 else if key=[100,105,115,107] then 90 else if key=[112,111,114,116,115] then 91 else if key=[114,117,108,101] then 92 else 93
noncomputable def rd (key v:List Nat) (s:S13):Option (AV×Heap×Vecs):=rdN (qN key) s.k s.n s.u s.b s.c s.d s.i s.x1 s.x2 s.x3 s.x4 s.r s.ba v
noncomputable def stB (key v:List Nat) (s:S13):Option (AV×Heap×Vecs):=zEH key v s.k s.n s.u s.b s.c s.d s.i s.x1 s.x2 s.x3 s.x4 s.r s.ba
theorem zYe {key v:List Nat} (I:zLr key) (hl:v.length<=65536) (h8:∀c∈v,c<256) (s:S13):∃(g:Bool) (y z:S13),rd key v s=some (.bool g,ob (y.vy v),[])/\stB key v s=some (.bool g,ob z.cells,[])/\(g=true->y=z/\(Inv s->Inv y)):=by
 obtain ⟨A,a2,a3,j,hB,q⟩:=zWH v (by omega)
 have F:=zL5 v (by omega)
 have E:=zGb v (by omega)
 obtain ⟨m,G,J,_⟩:=zVK v;unfold stB;rw [zKg,hB,zXV];simp only [zK];rcases I with rfl | rfl | rfl | rfl | rfl | rfl | rfl | rfl | rfl | rfl | rfl
 ·exact ⟨zAN 16 v,{ s with u:=v },{ s with u:=v },by show zGc _ _ _ _ _ _ _ _ _ _ _ _ _ _=_;rw [zMb,F];rfl,by rw [E];rfl,λ _=>⟨rfl,λ h=>{ h with hu:=hl }⟩⟩
 ·exact ⟨decide (m>=0),{ s with b:=m },{ s with b:=m },by show zGd _ _ _ _ _ _ _ _ _ _ _ _ _ _=_;rw [zMc,G];rfl,by rw [J];rfl,λ _=>⟨rfl,λ h=>{ h with }⟩⟩
 ·exact ⟨a3,{ s with c:=A },{ s with c:=a2 },by show zFL _ _ _ _ _ _ _ _ _ _ _ _ _ _=_;rw [zLH,zLG,j];rfl,by show zk _ _ _ _ _ _ _ _ _ _ _ _ _ _=_;rw [zX],λ h=>⟨by rw [q h],λ h=>{ h with }⟩⟩
 ·exact ⟨a3,{ s with d:=A },{ s with d:=a2 },by show zGe _ _ _ _ _ _ _ _ _ _ _ _ _ _=_;rw [zMd,zKd,j];rfl,by show zk _ _ _ _ _ _ _ _ _ _ _ _ _ _=_;rw [zX],λ h=>⟨by rw [q h],λ h=>{ h with }⟩⟩
 ·exact ⟨zAN 16 v,{ s with i:=v },{ s with i:=v },by show zHp _ _ _ _ _ _ _ _ _ _ _ _ _ _=_;rw [zM5,F];rfl,by rw [E];rfl,λ _=>⟨rfl,λ h=>{ h with hi:=hl }⟩⟩
 ·exact ⟨a3,{ s with x1:=A },{ s with x1:=a2 },by show zGS _ _ _ _ _ _ _ _ _ _ _ _ _ _=_;rw [zMO,zK1,j];rfl,by show zk _ _ _ _ _ _ _ _ _ _ _ _ _ _=_;rw [zX],λ h=>⟨by rw [q h],λ h=>{ h with }⟩⟩
 ·exact ⟨a3,{ s with x2:=A },{ s with x2:=a2 },by show zGT _ _ _ _ _ _ _ _ _ _ _ _ _ _=_;rw [zMP,zJB,j];rfl,by show zk _ _ _ _ _ _ _ _ _ _ _ _ _ _=_;rw [zX],λ h=>⟨by rw [q h],λ h=>{ h with }⟩⟩
 ·exact ⟨a3,{ s with x3:=A },{ s with x3:=a2 },by show zGf _ _ _ _ _ _ _ _ _ _ _ _ _ _=_;rw [zMe,zJC,j];rfl,by show zk _ _ _ _ _ _ _ _ _ _ _ _ _ _=_;rw [zX],λ h=>⟨by rw [q h],λ h=>{ h with }⟩⟩
 ·exact ⟨a3,{ s with x4:=A },{ s with x4:=a2 },by show zFM _ _ _ _ _ _ _ _ _ _ _ _ _ _=_;rw [zLI,zJD,j];rfl,by show zk _ _ _ _ _ _ _ _ _ _ _ _ _ _=_;rw [zX],λ h=>⟨by rw [q h],λ h=>{ h with }⟩⟩
 ·have C:=zM0 v h8;have B:=zRb v;have go:∀(g:Bool) (r:List AV),(zGg s.k s.n s.u s.b s.c s.d s.i s.x1 s.x2 s.x3 s.x4 s.r s.ba v=some (.bool g,ob ({ s with r:=r:S13 }.vy v),[]))->(g=true->RuOK r)->∃(y z:S13),rd [114,117,108,101] v s=some (.bool g,ob (y.vy v),[])/\{ s with r:=r }=z/\(g=true->y=z/\(Inv s->Inv y)):=λ g r C B=>⟨{ s with r:=r },{ s with r:=r },C,rfl,λ H=>⟨rfl,λ h=>{ h with hr:=B H }⟩⟩
  cases hp:zFs v with
  | error e=>
   obtain ⟨e,f⟩:=e;have he:=zMI h8 hp;rw [hp] at C B;obtain ⟨y,z,q1,rfl,D⟩:=go false [] (by
    rw [zHK,C];show some (AV.bool (e==0&&f==0),_)=_
    rw [he]) (λ h=>by cases h)
   refine ⟨false,y,_,q1,?_,D⟩
   rw [B];show some (AV.bool (e==0&&f==0),_)=_
   rw [he]
  | ok t=>
   obtain ⟨t1,t2,_⟩:=zNR hp;rw [hp] at C B;obtain ⟨y,z,q1,rfl,D⟩:=go true (t.fl 0) (by rw [zHK,C];rfl) λ _=>RuOK.fl t1 t2
   refine ⟨true,y,_,q1,?_,D⟩
   rw [B];rfl
 ·exact ⟨a3,{ s with ba:=A },{ s with ba:=a2 },by show zFP _ _ _ _ _ _ _ _ _ _ _ _ _ _=_;rw [zLM,zKe,j];rfl,by show zk _ _ _ _ _ _ _ _ _ _ _ _ _ _=_;rw [zX],λ h=>⟨by rw [q h],λ h=>{ h with }⟩⟩
def badA (p:Int):AV:=.qc [.agg [.int .i64 (Int.ofNat 0),.str [],.str [],.int .i64 (Int.ofNat 0),.int .i64 (Int.ofNat 0),.int .i64 (Int.ofNat 0),.str [],.int .i64 (Int.ofNat 0),.int .i64 (Int.ofNat 0),.int .i64 (Int.ofNat 0),.int .i64 (Int.ofNat 0),.ql 6 [],.int .i64 (Int.ofNat 0)],.agg [.int .i64 (Int.ofNat 5),.int .i64 p]]
theorem badE {p:Int} {P:AV->Prop} (h:P (badA p)):Wp (dK true [K.qc 2,K.agg 13,K.i IntKind.i64,K.s,K.s,K.i IntKind.i64,K.i IntKind.i64,K.i IntKind.i64,K.s,K.i IntKind.i64,K.i IntKind.i64,K.i IntKind.i64,K.i IntKind.i64,K.l 6,K.i IntKind.i64,K.agg 2,K.i IntKind.i64,K.i IntKind.i64] (zCA p) λ k n u b c d i x1 q x3 x4 r g q1 j=>some (.qc [.agg (S13.cells ⟨k,n,u,b,c,d,i,x1,q,x3,x4,r,g⟩),.agg [.int .i64 q1,.int .i64 j]])) P:=by
 rw [zPg];exact Wp.mk h
noncomputable def LA (f:Nat) (l0 us:List AV) (N:Int) (i:Nat) (s:S13) (v:List Nat) (ns:List (List Nat)):Option AV:=zF1 f l0 us N (Int.ofNat i) s.k s.n s.u s.b s.c s.d s.i s.x1 s.x2 s.x3 s.x4 s.r s.ba v (Int.ofNat 0) [] [] (Int.ofNat 0) (Int.ofNat 0) (Int.ofNat 0) [] (Int.ofNat 0) (Int.ofNat 0) (Int.ofNat 0) (Int.ofNat 0) (Int.ofNat 0) (Int.ofNat 0) (Int.ofNat 0) (mapN ns)
section
variable {l0 us:List AV} {N:Int} {f i:Nat} {s y:S13} {v w v0 key:List Nat} {p:Int} {ns:List (List Nat)} {P:AV->Prop} {gv hB rb:Bool}
theorem rnd (u:zLr key) (g:Int.ofNat i<N) (F:i<1000000) (C:ixN us (Int.ofNat i)=some (.agg [.str w,.int .i64 p])) (E:zDR w=some (.qc [.str key,.str v,.bool gv])) (A:zA0 s.k key=some (.bool hB))
  (B:rd key v s=some (.bool rb,ob (y.vy v),[])) (d:(gv=false\/key∈ns\/hB=false\/rb=false)->P (badA p)) (q:gv=true->key ∉ ns->hB=true->rb=true->Wp (LA f l0 us N (i+1) y v (ns++[key])) P):Wp (LA (f+1) l0 us N i s v0 ns) P:=by
 unfold LA;rw [zEv];refine Wp.ite (λ _=>zGx C (zMA E (zVt zMh ?_))) λ h=>absurd g h
 have hs:key∈ns\/key ∉ ns:=Classical.em _;have z:key ∉ ns->_:=zYd key ns;have r:key∈ns->_:=zWL key ns;have mp:key ∉ ns->_:=zSN key ns;unfold LA at q;rcases u with rfl | rfl | rfl | rfl | rfl | rfl | rfl | rfl | rfl | rfl | rfl
 all_goals repeat refine Wp.if (λ h=>absurd h (by decide)) λ _=>?_
 all_goals refine Wp.if (λ _=>?_) λ h=>absurd h (by decide)
 all_goals simp only [zOx]
 all_goals refine Wp.if (λ h=>Wp.if (λ _=>badE (d (.inl (by simpa using h)))) λ h=>by cases h) λ t=>?_
 all_goals
  rcases hs with hs | hs
  ·exact qk_b (r hs) (Wp.if (λ _=>Wp.if (λ _=>badE (d (.inr (.inl hs)))) λ h=>by cases h) λ h=>by cases h)
  refine qk_b (z hs) (Wp.if (λ h=>by cases h) λ _=>qk_b A (Wp.if (λ h=>badE (d (.inr (.inr (.inl (by simpa using h)))))) λ h=>?_))
  rw [zOw,mp hs]
  ·refine Wp.bd (R:=λ m=>m=mapN (ns++[_])) ⟨_,rfl,rfl⟩ λ m D=>?_
   subst D;refine zLZ B (Wp.if (λ h=>badE (d (.inr (.inr (.inr (by simpa using h)))))) λ j=>?_)
   rw [zc (by omega)]
   exact q (by simpa using t) hs (by simpa using h) (by simpa using j)
  ·decide
theorem zWM (g:¬zLr key) (j:Int.ofNat i<N) (B:ixN us (Int.ofNat i)=some (.agg [.str w,.int .i64 p])) (u:zDR w=some (.qc [.str key,.str v,.bool gv])) (d:P (badA p)):Wp (LA (f+1) l0 us N i s v0 ns) P:=by
 unfold zLr at g;simp only [not_or] at g;obtain ⟨D,t,A,n3,n4,r,n6,q,C,z,k⟩:=g;unfold LA;rw [zEv];refine Wp.ite (λ _=>zGx B (zMA u (zVt zMh ?_))) λ h=>absurd j h
 simp only [zK,QG D,QG t,QG A,QG n3,QG n4,QG r,QG n6,QG q,QG C,QG z,QG k,zEF,zNZ];exact Wp.if (λ _=>Wp.if (λ _=>badE d) λ h=>by cases h) λ _=>Wp.if (λ _=>badE d) λ h=>by cases h
end
end Go.Proofs.YtdeeimaahdgeaaaGreatDoor.spec
namespace Go.Proofs.YtdeeimaahdgeaaaGreatDoor.spec
open Go Go.Sy
variable [MX]
theorem zAh {β:Type} {wk:Bool} {P:β->Prop} {f:Int->List Nat->Bool->List Nat->Option β} {o:Option AV} {x1:Int} {d x4:List Nat} {x3:Bool} (h:o=some (.agg [.int .i64 x1,.str d,.bool x3,.str x4])) (k:Wp (f x1 d x3 x4) P):Wp (dK wk [K.agg 4,K.i IntKind.i64,K.s,K.b,K.s] o f) P:=by
 subst h;exact k
def Is13 (x:AV):Prop:=∃s:S13,x=.agg s.cells
def Ok13 (x:AV):Prop:=∃s:S13,x=.agg s.cells/\NdL s.r/\s.r.length<=64
theorem is13 {k b c d x1 h x3 x4 g:Int} {n u i:List Nat} {r:List AV}:Is13 (.agg [.int .i64 k,.str n,.str u,.int .i64 b,.int .i64 c,.int .i64 d,.str i,.int .i64 x1,.int .i64 h,.int .i64 x3,.int .i64 x4,.ql 6 r,.int .i64 g]):=⟨⟨k,n,u,b,c,d,i,x1,h,x3,x4,r,g⟩,rfl⟩
def Rl (a b:AV):Prop:=(∃x,Ok13 x/\a=.qc [x,.agg [.int .i64 (Int.ofNat 0),.int .i64 (Int.ofNat 0)]]/\b=.qc [x,.int .i64 (Int.negSucc 0)])\/∃(p:Nat) (x:AV),Is13 x/\a=badA (Int.ofNat p)/\b=.qc [x,.int .i64 (Int.ofNat p)]
noncomputable def LB (f:Nat) (l:List AV) (i:Nat) (s:S13):Option AV:=zBS f l (Int.ofNat i) s.k s.n s.u s.b s.c s.d s.i s.x1 s.x2 s.x3 s.x4 s.r s.ba (Int.ofNat 0) [] [] (Int.ofNat 0) (Int.ofNat 0) (Int.ofNat 0) [] (Int.ofNat 0) (Int.ofNat 0) (Int.ofNat 0) (Int.ofNat 0) (Int.ofNat 0)
theorem ixB {ws:List MW} {a i:Nat} (h:i<ws.length):ixN (ws.map (wB a)) (Int.ofNat i)=some (.agg [.int .i64 (Int.ofNat (a+ws[i].p)),.str ws[i].key,.bool ws[i].gv,.str ws[i].val]):=by
 show (ws.map (wB a))[i]? = _
 rw [Ql,QC h];rfl
theorem ixA {ws:List MW} {a i:Nat} (h:i<ws.length):ixN (ws.map (wA a)) (Int.ofNat i)=some (.agg [.str ws[i].raw,.int .i64 (Int.ofNat (a+ws[i].p))]):=by
 show (ws.map (wA a))[i]? = _
 rw [Ql,QC h];rfl
def ksOf (ws:List MW) (j i:Nat):List (List Nat):=((ws.take i).drop j).map MW.key
theorem zSO {s z:S13} {ws:List MW} {a i m:Nat} (G:2<=i) (t:i<ws.length) (R:i<1000000) {hB g:Bool} {Q:AV->Prop}
  (J:zBV s.k ws[i].key=some (.bool hB)) (hs:hB=true->stB ws[i].key ws[i].val s=some (.bool g,ob z.cells,[]))
  (j:(ws[i].gv=false\/ws[i].key∈ksOf ws 2 i\/hB=false\/g=false)->∀x,Is13 x->Q (.qc [x,.int .i64 (Int.ofNat (a+ws[i].p))]))
  (E:ws[i].gv=true->ws[i].key ∉ ksOf ws 2 i->hB=true->g=true->Wp (LB m (ws.map (wB a)) (i+1) z) Q):
  Wp (LB (m+1) (ws.map (wB a)) i s) Q:=by
 have loop:∀(f q:Nat),q<=i->i-q<f->(ws[i].key∈ksOf ws q i↔ws[i].key∈ksOf ws 2 i)->Wp (zBR m f (ws.map (wB a)) (Int.ofNat i) (Int.ofNat q) s.k s.n s.u s.b s.c s.d s.i s.x1 s.x2 s.x3 s.x4 s.r s.ba (Int.ofNat 0) [] [] (Int.ofNat 0) (Int.ofNat 0) (Int.ofNat 0) [] (Int.ofNat 0) (Int.ofNat 0) (Int.ofNat 0) (Int.ofNat 0) (Int.ofNat 0)) Q:=by
  intro f
  induction f with
  | zero=>intro q _ h;omega
  | succ f K=>
   intro q M O A;rw [zIw];refine Wp.lt (λ C=>?_) λ F=>?_
   ·have e:ksOf ws q i=ws[q].key::ksOf ws (q+1) i:=by
     unfold ksOf;rw [QZ (by rw [Qe];omega),Qd,List.getElem_take]
    rw [e] at A;refine zAh (ixB (by omega)) (zAh (ixB t) (Wp.if (λ h=>?_) λ h=>?_))
    ·have h:=zKj h;exact zAh (ixB t) (Wp.mk (j (.inr (.inl (A.1 (by rw [h];exact .head _)))) _ is13))
    ·have D:ws[i].key≠ws[q].key:=λ I=>by rw [I,zK] at h;simp at h
     rw [zc (by omega)]
     refine K (q+1) C (by omega) ?_
     rw [←A,QJ];exact ⟨.inr,λ h=>h.resolve_left D⟩
   ·have B:ws[i].key ∉ ksOf ws 2 i:=λ h=>by
     have h:=A.2 h;unfold ksOf at h;rw [Qh (by rw [Qe];omega)] at h
     cases h
    refine zAh (ixB t) ?_
    simp only [zIH];refine Wp.if (λ h=>Wp.if (λ _=>zAh (ixB t) (Wp.mk (j (.inl (by simpa using h)) _ is13))) λ h=>by cases h) λ H=>zAh (ixB t) (qk_b J ?_)
    cases hB with
    | false=>exact Wp.if (λ _=>Wp.if (λ _=>zAh (ixB t) (Wp.mk (j (.inr (.inr (.inl rfl))) _ is13))) λ h=>by cases h) λ h=>by cases h
    | true=>
     refine Wp.if (λ h=>by cases h) λ _=>zAh (ixB t) (zAh (ixB t) (qd13 (hs rfl) (Wp.if (λ h=>zAh (ixB t) (Wp.mk (j (.inr (.inr (.inr (by simpa using h)))) _ is13))) λ h=>?_)))
     rw [zc (by omega)]
     exact E (by simpa using H) B rfl (by simpa using h)
 unfold LB;rw [zEB];refine Wp.ite (λ _=>loop FUEL 2 G (by have:=zC (n:=1000000) (by omega);omega) Iff.rfl) λ h=>absurd (show Int.ofNat i<Int.ofNat (ws.map (wB a)).length by rw [QO,qr,qr];omega) h
theorem both {ws:List MW} (hws:∀w∈ws,WdOK w) (a:Nat) (hl:ws.length<=65536) (h0:0<ws.length):∀(q t:Nat),t+q+2=ws.length->∀(f g:Nat),q<f->q<g->∀(s:S13) (v:List Nat),Inv s →
  Wp (LA f (ws.map (wA a)) (List.drop 2 (ws.map (wA a))) (Int.ofNat (ws.length-2)) t s v (ksOf ws 2 (t+2))) λ A=>Wp (LB g (ws.map (wB a)) (t+2) s) (Rl A):=by
 intro q
 induction q with
 | zero=>
  intro t W f g hf X s v M;obtain ⟨f,rfl⟩:∃x,f=x+1:=⟨f-1,by omega⟩
  obtain ⟨g,rfl⟩:∃x,g=x+1:=⟨g-1,by omega⟩
  obtain ⟨hn,hu,hi,C,Q,c0,hc,V⟩:=M;obtain ⟨z,K,hB,hz⟩:=zP5 s.k s.n s.u s.b s.c s.d s.i s.x1 s.x2 s.x3 s.x4 s.r s.ba c0 (by omega) (by omega) (by omega) C (by omega) hc V
  have U:∀{A:AV},(z≠0->Rl A (.qc [.agg s.cells,.int .i64 (Int.ofNat (a+ws[0].p))]))->(z=0->Rl A (.qc [.agg s.cells,.int .i64 (Int.negSucc 0)]))->Wp (LB (g+1) (ws.map (wB a)) (t+2) s) (Rl A):=λ I D=>by
   unfold LB;rw [zEB];refine Wp.ite (λ h=>absurd h (by rw [QO,qr,qr];omega)) λ _=>qk_i hB (Wp.if (λ h=>?_) λ h=>?_)
   ·exact zAh (ixB h0) (Wp.mk (I (by simpa using h)))
   ·exact Wp.mk (D (by simpa using h))
  unfold LA;rw [zEv];refine Wp.ite (λ h=>absurd h (by rw [qr,qr];omega)) λ _=>qk_i K (Wp.if (λ h=>zGx (ixA h0) (badE ?_)) λ h=>Wp.mk ?_)
  ·have h:z≠0:=by simpa using h
   exact U (λ _=>.inr ⟨_,_,is13,rfl,rfl⟩) λ e=>absurd e h
  ·have h:z=0:=by simpa using h
   exact U (λ e=>absurd h e) λ _=>.inl ⟨_,⟨s,rfl,C,Q⟩,rfl,rfl⟩
 | succ q G=>
  intro t W f g hf X s v M;obtain ⟨f,rfl⟩:∃x,f=x+1:=⟨f-1,by omega⟩
  obtain ⟨g,rfl⟩:∃x,g=x+1:=⟨g-1,by omega⟩
  have j:t+2<ws.length:=by omega
  have F:=hws ws[t+2] (Qq j);have Y:ksOf ws 2 (t+1+2)=ksOf ws 2 (t+2)++[ws[t+2].key]:=by
   unfold ksOf;rw [show t+1+2=t+2+1 by omega,List.take_add_one,QC j]
   rw [List.drop_append_of_le_length (by rw [Qe];omega),ZA]
   rfl
  have T:ixN (List.drop 2 (ws.map (wA a))) (Int.ofNat t)=some (.agg [.str ws[t+2].raw,.int .i64 (Int.ofNat (a+ws[t+2].p))]):=by
   show (List.drop 2 (ws.map (wA a)))[t]? = _
   rw [List.getElem?_drop,Nat.add_comm 2 t];exact ixA j
  have C:Int.ofNat t<Int.ofNat (ws.length-2):=by rw [qr,qr];omega
  have bad:∀x,Is13 x->Rl (badA (Int.ofNat (a+ws[t+2].p))) (.qc [x,.int .i64 (Int.ofNat (a+ws[t+2].p))]):=λ x h=>.inr ⟨_,x,h,rfl,rfl⟩
  have G:=G (t+1) (by omega) f g (by omega) (by omega)
  rw [Y] at G;by_cases E:zLr ws[t+2].key
  ·obtain ⟨r,y,z,K,hS,S⟩:=zYe E F.vl F.v8 s;obtain ⟨b,I,D⟩:=zWI s.k ws[t+2].key;refine rnd E C (by omega) T F.val I K (λ H=>?_) λ q1 R J B=>?_
   ·refine zSO (by omega) j (by omega) D (λ _=>hS) (λ _=>bad) λ q1 R J B=>?_
    rcases H with h | h | h | h
    ·rw [q1] at h;cases h
    ·exact absurd h R
    ·rw [J] at h;cases h
    ·rw [B] at h;cases h
   ·have e:=(S B).1;subst e;refine (G y _ ((S B).2 M)).mono λ A O=>zSO (by omega) j (by omega) D (λ _=>hS) (λ H=>?_) λ _ _ _ _=>O
    rcases H with h | h | h | h
    ·rw [q1] at h;cases h
    ·exact absurd h R
    ·rw [J] at h;cases h
    ·rw [B] at h;cases h
  ·exact zWM E C T F.val (zSO (z:=s) (g:=false) (by omega) j (by omega) (zSJ E).2 (λ h=>by cases h) (λ _=>bad) λ _ _ h _=>by cases h)
theorem RuOK.nil:RuOK []:=⟨λ _ h=>(by cases h),QP _,2,by rw [zLw,zKY];rfl,by rw [zFb];rfl⟩
theorem RuOK.any:RuOK [nd6 (Int.ofNat 1) [] [] (Int.ofNat 0) (Int.negSucc 0) (Int.negSucc 0)]:=RuOK.fl (t:=RT.leaf 1 [] [] 0) (.inl ⟨rfl,rfl,rfl,rfl⟩) (by decide)
theorem zYf {s:List Nat} (h:61∈s):zAN 16 s=false:=by
 unfold zAN;have:s.all namB=false:=by
  rw [List.all_eq_false];exact ⟨61,h,by decide⟩
 simp [this]
theorem WdOK.word {w:MW} (d:WdOK w) {s:List Nat} (hs:61 ∉ s):w.raw=s↔w.gv=false/\w.key=s:=by
 constructor
 ·intro h;cases hg:w.gv with
  | true=>exact absurd (d.yes hg) (h▸hs)
  | false=>exact ⟨rfl,(d.no hg).symm.trans h⟩
 ·rintro ⟨h1,h2⟩
  exact (d.no h1).trans h2
theorem Inv0 {k b c d x1 j x3 x4 g:Int} {r:List AV} (h:RuOK r):Inv ⟨k,[],[],b,c,d,[],x1,j,x3,x4,r,g⟩:=⟨QP _,QP _,QP _,h⟩
noncomputable def JA (l:List AV) (s:S13):Option AV:=zEX l s.k s.n s.u s.b s.c s.d s.i s.x1 s.x2 s.x3 s.x4 s.r s.ba [] (Int.ofNat 0) [] [] (Int.ofNat 0) (Int.ofNat 0) (Int.ofNat 0) [] (Int.ofNat 0) (Int.ofNat 0) (Int.ofNat 0) (Int.ofNat 0) (Int.ofNat 0) (Int.ofNat 0) (Int.ofNat 0)
noncomputable def JB (l:List AV) (s:S13):Option AV:=zAv l s.k s.n s.u s.b s.c s.d s.i s.x1 s.x2 s.x3 s.x4 s.r s.ba (Int.ofNat 0) [] [] (Int.ofNat 0) (Int.ofNat 0) (Int.ofNat 0) [] (Int.ofNat 0) (Int.ofNat 0) (Int.ofNat 0) (Int.ofNat 0) (Int.ofNat 0)
section
variable {ws:List MW} {a:Nat} (hws:∀w∈ws,WdOK w) (hl:ws.length<=65536) (h0:0<ws.length)
include hws hl h0
theorem zPb {s:S13} (R:Inv s) (hn:s.n=[]):Wp (JA (ws.map (wA a)) s) λ A=>Wp (JB (ws.map (wB a)) s) (Rl A):=by
 unfold JA JB;by_cases B:ws.length=1
 ·
  obtain ⟨_,Y,hi,U,V,c0,hc,S⟩:=R;obtain ⟨z,G,J,Q⟩:=zP5 s.k s.n s.u s.b s.c s.d s.i s.x1 s.x2 s.x3 s.x4 s.r s.ba c0 (by rw [hn];decide) (by omega) (by omega) U (by omega) hc S
  have Q:z≠0:=λ e=>by
   rw [zFc,hn,zGb [] (by decide)] at J
   have:(some (AV.int IntKind.i64 (Int.ofNat 2)))=some (.int .i64 z):=J;cases this;cases e
  rw [zJR];refine Wp.ite (λ h=>absurd h (by rw [QO,B];decide)) λ _=>?_
  rw [zJQ];have j:(if Int.ofNat (List.length (ws.map (wA a)))<2 then Int.ofNat (List.length (ws.map (wA a))) else 2)=Int.ofNat 1:=by rw [QO,B];rfl
  rw [j];refine Wp.gd ⟨by decide,by rw [QO,B];decide⟩ ?_
  have I:List.drop (Int.toNat (Int.ofNat 1)) (List.take (Int.toNat (Int.ofNat (List.length (ws.map (wA a))))) (ws.map (wA a)))=[]:=Qh (by rw [Qe,QO,B];exact Nat.min_le_right _ _)
  rw [I,zER,zEv];refine Wp.ite (λ h=>absurd h (by decide)) λ _=>qk_i G (Wp.if (λ _=>zGx (ixA h0) (badE ?_)) λ h=>absurd (by simpa using h) Q)
  rw [zCH];exact Wp.ite (λ _=>zAh (ixB h0) (Wp.mk (.inr ⟨_,_,is13,rfl,rfl⟩))) λ h=>absurd (show Int.ofNat (ws.map (wB a)).length<2 by rw [QO,B];decide) h
 ·have g:1<ws.length:=by omega
  have D:=hws ws[1] (Qq g);have H:=D.rl;have T:=D.kl;rw [zJR];refine Wp.ite (λ _=>zGx (ixA g) (qk_b (zL5 _ (by omega)) (Wp.if (λ h=>zGx (ixA g) (badE ?_)) λ h=>zGx (ixA g) ?_))) λ h=>absurd (show Int.ofNat (ws.map (wA a)).length > 1 by rw [QO,qr];omega) h
  ·have hn:zAN 16 ws[1].raw=false:=by simpa using h
   rw [zCH];simp only [zEJ];refine Wp.ite (λ h=>absurd h (by rw [QO,qr];omega)) λ _=>zAh (ixB g) ?_
   have M:∀{t:Bool} {x:Option AV},t=true->Wp (br t (dK true [K.agg 4,K.i IntKind.i64,K.s,K.b,K.s] (ixN (ws.map (wB a)) 1) λ n3 W b2 s5=>some (AV.qc [AV.agg s.cells,AV.int IntKind.i64 n3])) x) (Rl (badA (Int.ofNat (a+ws[1].p)))):=λ h=>by
    subst h;exact zAh (ixB g) (Wp.mk (.inr ⟨_,_,is13,rfl,rfl⟩))
   refine Wp.if (λ _=>M rfl) λ q=>zAh (ixB g) ?_
   rw [D.no q] at hn;exact qk_b (zGb _ (by omega)) (M (by rw [hn];rfl))
  ·have h:zAN 16 ws[1].raw=true:=by simpa using h
   have q:ws[1].gv=false:=by
    cases q:ws[1].gv with
    | false=>rfl
    | true=>rw [zYf (D.yes q)] at h;cases h
   have O:=D.no q;rw [zJQ];have j:(if Int.ofNat (List.length (ws.map (wA a)))<2 then Int.ofNat (List.length (ws.map (wA a))) else 2)=2:=if_neg (by rw [QO,qr];omega)
   rw [j];refine Wp.gd ⟨by decide,by rw [QO,qr];omega⟩ ?_
   have E:List.drop (Int.toNat 2) (List.take (Int.toNat (Int.ofNat (List.length (ws.map (wA a))))) (ws.map (wA a)))=List.drop 2 (ws.map (wA a)):=by
    rw [show Int.toNat (Int.ofNat (List.length (ws.map (wA a))))=(ws.map (wA a)).length from rfl,List.take_length];rfl
   have C:Int.ofNat (List.drop 2 (ws.map (wA a))).length=Int.ofNat (ws.length-2):=by rw [Qk,QO]
   rw [E,C];have F:([]:List (AV×AV))=mapN (ksOf ws 2 (0+2)):=by
    unfold ksOf;rw [Qh (by rw [Qe];omega)];rfl
   rw [F];have X:=zC (n:=65537) (by omega)
   refine (both hws a hl h0 (ws.length-2) 0 (by omega) FUEL FUEL (by omega) (by omega) { s with n:=ws[1].raw } [] { R with hn:=H }).mono λ A G=>?_
   rw [zCH];refine Wp.ite (λ h=>absurd h (by rw [QO,qr];omega)) λ _=>zAh (ixB g) (Wp.if (λ h=>by rw [q] at h;cases h) λ _=>zAh (ixB g) (qk_b (zGb _ (by omega)) ?_))
   rw [←O,h,zEJ];refine Wp.if (λ h=>by cases h) λ _=>?_
   rw [zII];refine zAh (ixB g) ?_
   rw [←O];exact G
theorem zVQ:Wp (zG6 (ws.map (wA a))) λ A=>Wp (zAr (ws.map (wB a))) (Rl A):=by
 have u:=hws ws[0] (Qq h0);have k:=u.word (s:=[106,111,98]) (by decide)
 have r:=u.word (s:=[97,108,108,111,99]) (by decide)
 have q:=u.word (s:=[117,112,100,97,116,101]) (by decide)
 have hB:∀{A:AV} (kd:Int),zEd (Int.ofNat (a+ws[0].p)) ws[0].key ws[0].gv ws[0].val=some (.int .i64 kd)->Wp (zDo (ws.map (wB a)) kd [] [] (Int.ofNat 0) (Int.ofNat 0) (Int.ofNat 0) [] (Int.ofNat 0) (Int.ofNat 0) (Int.ofNat 0) (Int.ofNat 0) [] (Int.ofNat 0) (Int.ofNat 0) [] [] (Int.ofNat 0) (Int.ofNat 0) (Int.ofNat 0) [] (Int.ofNat 0) (Int.ofNat 0) (Int.ofNat 0) (Int.ofNat 0) (Int.ofNat 0)) (Rl A)->Wp (zAr (ws.map (wB a))) (Rl A):=λ kd B z=>by
  rw [zJN];exact zAh (ixB h0) (qk_i B z)
 have kind:=zJG (Int.ofNat (a+ws[0].p)) ws[0].key ws[0].gv ws[0].val;rw [zQB];refine zGx (ixA h0) ?_
 rw [zK,zK,zK];rw [zK,zK,zK] at kind;by_cases d:ws[0].raw=[106,111,98]
 ·rw [QI d,zGU];rw [(k.1 d).1,(k.1 d).2] at kind;refine (zPb hws hl h0 (s:=⟨_,_,_,_,_,_,_,_,_,_,_,_,_⟩) (Inv0 RuOK.any) rfl).mono λ A t=>hB 1 (by rw [(k.1 d).1,(k.1 d).2];exact kind) ?_
  rw [zBl,zUw];exact t
 by_cases g:ws[0].raw=[97,108,108,111,99]
 ·rw [QG d,QI g,zGU];rw [(r.1 g).1,(r.1 g).2] at kind;refine (zPb hws hl h0 (s:=⟨_,_,_,_,_,_,_,_,_,_,_,_,_⟩) (Inv0 RuOK.any) rfl).mono λ A t=>hB 2 (by rw [(r.1 g).1,(r.1 g).2];exact kind) ?_
  rw [zBl,zUw];exact t
 by_cases j:ws[0].raw=[117,112,100,97,116,101]
 ·rw [QG d,QG g,QI j];rw [(q.1 j).1,(q.1 j).2] at kind;refine (zPb hws hl h0 (s:=⟨_,_,_,_,_,_,_,_,_,_,_,_,_⟩) (Inv0 RuOK.nil) rfl).mono λ A t=>hB 3 (by rw [(q.1 j).1,(q.1 j).2];exact kind) ?_
  rw [zBl];exact t
 rw [QG d,QG g,QG j];refine zGx (ixA h0) ?_
 refine badE (hB 0 ?_ ?_)
 ·rw [kind];cases hg:ws[0].gv with
  | true=>rfl
  | false=>
   rw [QG λ h=>d (k.2 ⟨hg,h⟩),QG λ h=>g (r.2 ⟨hg,h⟩),QG λ h=>j (q.2 ⟨hg,h⟩)];rfl
 ·rw [zBl];exact zAh (ixB h0) (Wp.mk (.inr ⟨_,_,is13,rfl,rfl⟩))
end
end Go.Proofs.YtdeeimaahdgeaaaGreatDoor.spec
namespace Go.Proofs.YtdeeimaahdgeaaaGreatDoor.spec
open Go Go.Sy
variable [MX]
theorem zRg (c:Nat):∀l:List Nat,zDP c l=if rn (λ x=>x != c) l 0<l.length then l.take (rn (λ x=>x != c) l 0)::zDP c (l.drop (rn (λ x=>x != c) l 0+1)) else [l]
 | []=>rfl
 | x::r=>by
  have g:=zRg c r;rw [zDP];cases h:Nat.beq x c with
  | true=>
   have:=zb h;have j:rn (λ x=>x != c) (x::r) 0=0:=zFJ (by unfold isAt;simp [this])
   rw [j,if_pos (by simp)]
   rfl
  | false=>
   have:=zAH h;have hs:rn (λ x=>x != c) (x::r) 0=rn (λ x=>x != c) r 0+1:=by
    unfold rn;rw [List.drop_zero,List.drop_zero,List.takeWhile_cons_of_pos (by simpa using this)]
    rfl
   rw [hs,g];by_cases d:rn (λ x=>x != c) r 0<r.length
   ·rw [if_pos d,if_pos (by simp;omega)]
    simp
   ·rw [if_neg d,if_neg (by simp;omega)]
theorem zYg (f:Nat->Bool) (s:List Nat) (i:Nat):rn f (s.drop i) 0=rn f s i:=by unfold rn;rw [List.drop_zero]
theorem zMM {β:Type} {wk:Bool} {P:β->Prop} {f:List AV->Int->Option β} {o:Option AV} {es:List AV} {x:Int} (h:o=some (.qc [.ql 4 es,.int .i64 x])) (k:Wp (f es x) P):Wp (dK wk [K.qc 2,K.l 4,K.i IntKind.i64] o f) P:=by
 subst h;exact k
theorem zSP {β:Type} {P:β->Prop} {f:List AV->Int->Option β} {o:Option AV} {x:Int} (h:o=some (.qc [.qa,.int .i64 x])) (k:Wp (f [] x) P):Wp (dK true [K.qc 2,K.l 4,K.i IntKind.i64] o f) P:=by
 subst h;exact k
theorem zLt {β:Type} {wk:Bool} {P:β->Prop} {f:Int->List Nat->List Nat->Int->Int->Int->List Nat->Int->Int->Int->Int->List AV->Int->Int->Option β} {o:Option AV} {k b c d x1 t x3 x4 g:Int} {n u j:List Nat} {r:List AV} {p:Int} (h:o=some (.qc [.agg [.int .i64 k,.str n,.str u,.int .i64 b,.int .i64 c,.int .i64 d,.str j,.int .i64 x1,.int .i64 t,.int .i64 x3,.int .i64 x4,.ql 6 r,.int .i64 g],.int .i64 p])) (q:Wp (f k n u b c d j x1 t x3 x4 r g p) P):Wp (dK wk [K.qc 2,K.agg 13,K.i IntKind.i64,K.s,K.s,K.i IntKind.i64,K.i IntKind.i64,K.i IntKind.i64,K.s,K.i IntKind.i64,K.i IntKind.i64,K.i IntKind.i64,K.i IntKind.i64,K.l 6,K.i IntKind.i64,K.i IntKind.i64] o f) P:=by
 subst h;exact q
theorem zRh {β:Type} {wk:Bool} {P:β->Prop} {f:Int->List Nat->List Nat->Int->Int->Int->List Nat->Int->Int->Int->Int->List AV->Int->Int->Int->Option β} {o:Option AV} {k b c d x1 t x3 x4 g:Int} {n u j:List Nat} {r:List AV} {p z:Int} (h:o=some (.qc [.agg [.int .i64 k,.str n,.str u,.int .i64 b,.int .i64 c,.int .i64 d,.str j,.int .i64 x1,.int .i64 t,.int .i64 x3,.int .i64 x4,.ql 6 r,.int .i64 g],.agg [.int .i64 p,.int .i64 z]])) (q:Wp (f k n u b c d j x1 t x3 x4 r g p z) P):Wp (dK wk [K.qc 2,K.agg 13,K.i IntKind.i64,K.s,K.s,K.i IntKind.i64,K.i IntKind.i64,K.i IntKind.i64,K.s,K.i IntKind.i64,K.i IntKind.i64,K.i IntKind.i64,K.i IntKind.i64,K.l 6,K.i IntKind.i64,K.agg 2,K.i IntKind.i64,K.i IntKind.i64] o f) P:=by
 subst h;exact q
theorem zSQ {β:Type} {wk:Bool} {P:β->Prop} {f:List AV->Int->Int->Option β} {o:Option AV} {es:List AV} {x y:Int} (h:o=some (.qc [.ql 2 es,.agg [.int .i64 x,.int .i64 y]])) (k:Wp (f es x y) P):Wp (dK wk [K.qc 2,K.l 2,K.agg 2,K.i IntKind.i64,K.i IntKind.i64] o f) P:=by
 subst h;exact k
theorem zWN {β:Type} {P:β->Prop} {f:List AV->Int->Int->Option β} {o:Option AV} {x y:Int} (h:o=some (.qc [.qa,.agg [.int .i64 x,.int .i64 y]])) (k:Wp (f [] x y) P):Wp (dK true [K.qc 2,K.l 2,K.agg 2,K.i IntKind.i64,K.i IntKind.i64] o f) P:=by
 subst h;exact k
theorem zSR {n:Nat} (h:n<=100000):n*144<=zd/\n<=zd:=zXX (Qp h (by decide)) (by decide)
def PR (v:AV):Prop:=(∃p q:Int,v=.qc [.qa,.agg [.int .i64 p,.int .i64 q]])\/∃l,v=.qc [.ql 13 l,.agg [.int .i64 (Int.ofNat 0),.int .i64 (Int.ofNat 0)]]/\(∀x∈l,Ok13 x)/\l.length<=100000
section
variable {s:List Nat} (hs:s.length<=65536)
include hs
theorem zP6 {m a:Nat} {h0 h1:Int} {acc:List AV} {Q:AV->Prop} (H:a<=s.length)
  (I:(∃p:Nat,zAa s (Int.ofNat a) (Int.ofNat (a+rn (λ x=>x != 10) s a))=some (.qc [.qa,.int .i64 (Int.ofNat p)])/\Q (.qc [.qa,.agg [.int .i64 (Int.ofNat 5),.int .i64 (Int.ofNat p)]])) ∨
   (zAa s (Int.ofNat a) (Int.ofNat (a+rn (λ x=>x != 10) s a))=some (.qc [.ql 4 [],.int .i64 (Int.negSucc 0)])/\Wp (zt m s (Int.ofNat (a+rn (λ x=>x != 10) s a+1)) h0 h1 acc) Q) ∨
   (∃es,0<es.length/\zAa s (Int.ofNat a) (Int.ofNat (a+rn (λ x=>x != 10) s a))=some (.qc [.ql 4 es,.int .i64 (Int.negSucc 0)]) ∧
    ((∃(x:AV) (p:Nat),Is13 x/\zAr es=some (.qc [x,.int .i64 (Int.ofNat p)])/\Q (.qc [.qa,.agg [.int .i64 (Int.ofNat 5),.int .i64 (Int.ofNat p)]])) ∨
     (∃x,Is13 x/\zAr es=some (.qc [x,.int .i64 (Int.negSucc 0)])/\acc.length<=70000/\Wp (zt m s (Int.ofNat (a+rn (λ x=>x != 10) s a+1)) h0 h1 (acc++[x])) Q)))):
  Wp (zt (m+1) s (Int.ofNat a) h0 h1 acc) Q:=by
 have S:=zBY (λ x=>x != 10) s a H
 have loop:∀(f t:Nat),a<=t->t<=a+rn (λ x=>x != 10) s a->s.length-t<f->Wp (zBT m f s (Int.ofNat a) (Int.ofNat t) h0 h1 acc) Q:=by
  intro f
  induction f with
  | zero=>intro t _ _ h;omega
  | succ f K=>
   intro t h1 M O;rw [zIx];refine Wp.lt (λ q=>?_) λ J=>?_
   ·refine Wp.bd (R:=λ c=>c=s[t]) ⟨_,zAw q,rfl⟩ λ c hc=>?_
    subst hc;have z:isAt (λ x=>x != 10) s t=(s[t] != 10):=zA q
    refine Wp.if (λ h=>?_) λ h=>?_
    ·have h:s[t]≠10:=by
      intro e;rw [e] at h;exact absurd h (by decide)
     rw [zc (by omega)]
     refine K (t+1) (by omega) ?_ (by omega)
     have:t≠a+rn (λ x=>x != 10) s a:=λ e=>by
      have:=zDQ (λ x=>x != 10) s _ a (QA _)
      rw [←e,z] at this;have:s[t]=10:=by simpa using this
      exact h this
     omega
    ·have h:s[t]=10:=by
      have h:(Int.ofNat s[t] != 10)=false:=h;have h:(Int.ofNat s[t]==10)=true:=by
       cases e:(Int.ofNat s[t]==10) with
       | true=>rfl
       | false=>rw [bne,e] at h;cases h
      exact beqN.1 h
     have e:t=a+rn (λ x=>x != 10) s a:=by
      by_cases hl:t<a+rn (λ x=>x != 10) s a
      ·have:=zCl (f:=λ x=>x != 10) (s:=s) (t-a) a (by omega)
       rw [show a+(t-a)=t by omega,z,h] at this
       cases this
      ·omega
     subst e;rcases I with ⟨p,j,g⟩ | ⟨j,g⟩ | ⟨es,F,j,C⟩
     ·refine zSP j ?_
      exact Wp.ite (λ _=>Wp.mk g) λ h=>absurd (QV p) h
     ·refine zMM j ?_
      refine Wp.ite (λ h=>absurd h (by decide)) λ _=>Wp.ite (λ h=>absurd h (by decide)) λ _=>?_
      rw [zc (by omega)]
      exact g
     ·refine zMM j ?_
      refine Wp.ite (λ h=>absurd h (by decide)) λ _=>Wp.ite (λ _=>?_) λ h=>absurd (show Int.ofNat es.length > 0 by rw [qr];omega) h
      rcases C with ⟨x,p,⟨⟨k,n,u,b,c,d,D,G,E,x3,x4,r,B⟩,rfl⟩,hl,g⟩ | ⟨x,⟨⟨k,n,u,b,c,d,D,G,E,x3,x4,r,B⟩,rfl⟩,hl,A,g⟩
      ·refine zLt hl (Wp.ite (λ _=>Wp.mk g) λ h=>absurd (QV p) h)
      ·refine zLt hl (Wp.ite (λ h=>absurd h (by decide)) λ _=>Wp.gd (zSR (show acc.length+1<=_ by omega)) ?_)
       rw [zc (by omega)]
       exact g
   ·have e:t=a+rn (λ x=>x != 10) s a:=by omega
    subst e;rcases I with ⟨p,j,g⟩ | ⟨j,g⟩ | ⟨es,F,j,C⟩
    ·refine zSP j ?_
     exact Wp.ite (λ _=>Wp.mk g) λ h=>absurd (QV p) h
    ·refine zMM j ?_
     refine Wp.ite (λ h=>absurd h (by decide)) λ _=>Wp.ite (λ h=>absurd h (by decide)) λ _=>?_
     rw [zc (by omega)]
     exact g
    ·refine zMM j ?_
     refine Wp.ite (λ h=>absurd h (by decide)) λ _=>Wp.ite (λ _=>?_) λ h=>absurd (show Int.ofNat es.length > 0 by rw [qr];omega) h
     rcases C with ⟨x,p,⟨⟨k,n,u,b,c,d,D,G,E,x3,x4,r,B⟩,rfl⟩,hl,g⟩ | ⟨x,⟨⟨k,n,u,b,c,d,D,G,E,x3,x4,r,B⟩,rfl⟩,hl,A,g⟩
     ·refine zLt hl (Wp.ite (λ _=>Wp.mk g) λ h=>absurd (QV p) h)
     ·refine zLt hl (Wp.ite (λ h=>absurd h (by decide)) λ _=>Wp.gd (zSR (show acc.length+1<=_ by omega)) ?_)
      rw [zc (by omega)]
      exact g
 rw [zEc];exact Wp.ite (λ _=>loop FUEL a (QA _) (Qu _ _) (by have:=zC (n:=65537) (by omega);omega)) λ h=>absurd (show Int.ofNat a<=Int.ofNat s.length from Qi.2 H) h
theorem zP7 {ps:List (List Nat)} {f a i:Nat} {h0 h1:Int} {acc:List AV} {Q:AV->Prop} (z:i<ps.length) (G:a<=70000) (C:i<=70000) (hl:ps[i].length<=65536)
  (B:(∃p:Nat,zGz ps[i] (Int.ofNat a)=some (.qc [.qa,.agg [.int .i64 (Int.ofNat 5),.int .i64 (Int.ofNat p)]])/\Q (.qc [.qa,.agg [.int .i64 (Int.ofNat 5),.int .i64 (Int.ofNat p)]])) ∨
   (zGz ps[i] (Int.ofNat a)=some (.qc [.ql 2 [],.agg [.int .i64 (Int.ofNat 0),.int .i64 (Int.ofNat 0)]])/\Wp (zA1 f (Int.ofNat (a+ps[i].length+1)) (ps.map .str) (Int.ofNat ps.length) (Int.ofNat (i+1)) h0 h1 acc) Q) ∨
   (∃es,0<es.length/\zGz ps[i] (Int.ofNat a)=some (.qc [.ql 2 es,.agg [.int .i64 (Int.ofNat 0),.int .i64 (Int.ofNat 0)]]) ∧
    ((∃(p:Nat),zG6 es=some (badA (Int.ofNat p))/\Q (.qc [.qa,.agg [.int .i64 (Int.ofNat 5),.int .i64 (Int.ofNat p)]])) ∨
     (∃x,Is13 x/\zG6 es=some (.qc [x,.agg [.int .i64 (Int.ofNat 0),.int .i64 (Int.ofNat 0)]])/\acc.length<=70000/\Wp (zA1 f (Int.ofNat (a+ps[i].length+1)) (ps.map .str) (Int.ofNat ps.length) (Int.ofNat (i+1)) h0 h1 (acc++[x])) Q)))):
  Wp (zA1 (f+1) (Int.ofNat a) (ps.map .str) (Int.ofNat ps.length) (Int.ofNat i) h0 h1 acc) Q:=by
 have t:wrapx .i64 (Int.ofNat a+wrapx .i64 (Int.ofNat ps[i].length+1))=Int.ofNat (a+ps[i].length+1):=by
  rw [zc (by omega),zL (by rw [qr,qr];omega) (by rw [qr,qr];omega)]
  rw [qr,qr,qr];omega
 rw [zIN];refine Wp.ite (λ _=>qk_s (x1:=ps[i]) (by show (ps.map AV.str)[i]? = _;rw [Ql,QC z];rfl) ?_) λ h=>absurd (show Int.ofNat i<Int.ofNat ps.length by rw [qr,qr];omega) h
 rw [t,zc (by omega)]
 rcases B with ⟨p,hc,g⟩ | ⟨hc,g⟩ | ⟨es,A,hc,q⟩
 ·exact zWN hc (show Wp (br true _ _) Q from Wp.mk g)
 ·exact zSQ hc (show Wp (br false _ (br true _ _)) Q from g)
 ·refine zSQ hc ?_
  show Wp (br false _ _) Q
  rw [zEF];refine Wp.if (λ h=>?_) λ _=>?_
  ·have h:es.length=0:=beqN.1 h;omega
  rcases q with ⟨p,hl,g⟩ | ⟨x,⟨⟨k,n,u,b,c,d,E,x1,F,x3,x4,r,D⟩,rfl⟩,hl,j,g⟩
  ·exact zRh hl (show Wp (br true _ _) Q from Wp.mk g)
  ·refine zRh hl ?_
   show Wp (br false _ _) Q
   rw [zEF];exact Wp.gd (zSR (show acc.length+1<=_ by omega)) g
theorem zUx (h8:∀c∈s,c<256) {ps:List (List Nat)} {g0 g1 h0 h1:Int}:∀(q a i:Nat) (acc:List AV) (f g:Nat),a<=s.length->s.length-a<q->ps.drop i=zDP 10 (s.drop a)->i<=a->acc.length<=i->(∀x∈acc,Ok13 x)->q<f->q<g →
  Wp (zA1 f (Int.ofNat a) (ps.map .str) (Int.ofNat ps.length) (Int.ofNat i) g0 g1 acc) λ v=>Wp (zt g s (Int.ofNat a) h0 h1 acc) λ w=>w=v/\PR v:=by
 intro q
 induction q with
 | zero=>intro a i acc f g _ h;omega
 | succ q ih=>
  intro a i acc f g Q hq u aa X O hf hg;obtain ⟨f,rfl⟩:∃x,f=x+1:=⟨f-1,by omega⟩
  obtain ⟨g,rfl⟩:∃x,g=x+1:=⟨g-1,by omega⟩
  have hr:=zBY (λ x=>x != 10) s a Q
  have D:=zRg 10 (s.drop a);rw [zYg,Qk] at D;have G:ps.drop i=(s.drop a).take (rn (λ x=>x != 10) s a)::ps.drop (i+1)/\i<ps.length:=by
   have t:i<ps.length:=by
    by_cases h:i<ps.length
    ·exact h
    ·exfalso
     rw [Qh (by omega)] at u
     rw [←u] at D;split at D <;> cases D
   refine ⟨?_,t⟩
   have E:=QZ t;rw [E];rw [E,D] at u;split at u
   ·injection u with e1 e2
    rw [e1]
   ·injection u with e1 e2
    rw [e1];rename_i h;rw [List.take_of_length_le (by rw [Qk];omega)]
  obtain ⟨E,t⟩:=G;have F:ps[i]=(s.drop a).take (rn (λ x=>x != 10) s a):=by
   have:=QZ t;rw [this] at E;injection E
  have H:rn (λ x=>x != 10) s a<s.length-a/\ps.drop (i+1)=zDP 10 (s.drop (a+rn (λ x=>x != 10) s a+1))\/a+rn (λ x=>x != 10) s a=s.length/\ps.length<=i+1:=by
   rw [u,D] at E;split at E
   ·rename_i h;injection E with e1 e2
    rw [List.drop_drop] at e2;exact .inl ⟨h,by rw [←e2];rfl⟩
   ·rename_i h;injection E with e1 e2
    refine .inr ⟨by omega,?_⟩
    have:=congrArg List.length e2;rw [Qk] at this;have:0=ps.length-(i+1):=this;omega
  have I:ps[i].length=rn (λ x=>x != 10) s a:=by rw [F,Qe,Qk];omega
  generalize C:rn (λ x=>x != 10) s a=r at *
  have M:Sub s ps[i] a:=⟨by omega,λ k hk=>by
   rw [F,List.getElem?_take_of_lt (by omega),List.getElem?_drop],hs⟩
  have J:∀c∈ps[i],c<256:=λ c hc=>by
   rw [F] at hc;exact h8 c (List.drop_subset _ _ (List.take_subset _ _ hc))
  have next:∀d:List AV,d.length<=i+1->(∀x∈d,Ok13 x)->Wp (zA1 f (Int.ofNat (a+ps[i].length+1)) (ps.map .str) (Int.ofNat ps.length) (Int.ofNat (i+1)) g0 g1 d) λ v=>Wp (zt g s (Int.ofNat (a+r+1)) h0 h1 d) λ w=>w=v/\PR v:=λ d h1 V=>by
   rw [I];rcases H with ⟨h,he⟩ | ⟨h,he⟩
   ·exact ih (a+r+1) (i+1) d f g (by omega) (by omega) he (by omega) h1 V (by omega) (by omega)
   ·obtain ⟨f,rfl⟩:∃x,f=x+1:=⟨f-1,by omega⟩
    obtain ⟨g,rfl⟩:∃x,g=x+1:=⟨g-1,by omega⟩
    rw [zIN];refine Wp.ite (λ h=>absurd h (by rw [qr,qr];omega)) λ _=>Wp.mk ?_
    rw [zEc];exact Wp.ite (λ h=>absurd h (by rw [qr,qr];omega)) λ _=>Wp.mk ⟨rfl,.inr ⟨_,rfl,V,by omega⟩⟩
  have j:=zYW (L:=ps[i]) (b:=a) (by omega) (by omega) J
  have z:=zX9 M;rw [I] at z;have S:=zWK (L:=ps[i]) (by omega) J (ps[i].length+1) 0 []
  cases hW:zCd ps[i] (ps[i].length+1) 0 [] with
  | error p=>
   rw [I] at hW;rw [I,hW] at j;rw [hW] at z;refine zP7 hs t (by omega) (by omega) (by omega) (.inl ⟨a+p,j,?_⟩)
   exact zP6 hs Q (.inl ⟨a+p,C.symm▸z,rfl,.inl ⟨_,_,rfl⟩⟩)
  | ok ws=>
   obtain ⟨T,Y⟩:=S ws (QP _) (QP _) (λ _ h=>by cases h) hW
   rw [I] at hW;rw [I,hW] at j;rw [hW] at z;cases hws:ws with
   | nil=>
    subst hws;refine zP7 hs t (by omega) (by omega) (by omega) (.inr (.inl ⟨j,(next acc (by omega) O).mono λ v U=>?_⟩))
    exact zP6 hs Q (.inr (.inl ⟨C.symm▸z,C.symm▸U⟩))
   | cons w0 wr=>
    have h0:0<ws.length:=by rw [hws];exact Qz _
    obtain ⟨A,W,B,hB,hR⟩:=zVQ (ws:=ws) (a:=a) (λ w h=>(T w h).1) (by omega) h0
    rcases hR with ⟨x,R,rfl,rfl⟩ | ⟨p,x,R,rfl,rfl⟩
    ·have K:Is13 x:=by
      obtain ⟨s,e,_⟩:=R;exact ⟨s,e⟩
     refine zP7 hs t (by omega) (by omega) (by omega) (.inr (.inr ⟨_,by rw [QO];exact h0,j,.inr ⟨x,K,W,by omega,(next (acc++[x]) (by rw [QH];show acc.length+1<=_;omega) λ y hy=>?_).mono λ v U=>?_⟩⟩))
     ·rcases QK.1 hy with h | h
      ·exact O y h
      ·rw [Qc.1 h];exact R
     ·exact zP6 hs Q (.inr (.inr ⟨_,by rw [QO];exact h0,C.symm▸z,.inr ⟨x,K,hB,by omega,C.symm▸U⟩⟩))
    ·refine zP7 hs t (by omega) (by omega) (by omega) (.inr (.inr ⟨_,by rw [QO];exact h0,j,.inl ⟨p,W,?_⟩⟩))
     exact zP6 hs Q (.inr (.inr ⟨_,by rw [QO];exact h0,C.symm▸z,.inl ⟨x,p,R,hB,rfl,.inl ⟨_,_,rfl⟩⟩⟩))
end
theorem zUy (s:List Nat) (h8:∀c∈s,c<256):∃v,zKQ s=some v/\zD3 s=some v/\PR v:=by
 by_cases hs:s.length<=65536
 ·have he:zLu s [10]=some (.ql 1 ((zDP 10 s).map .str)):=by
   show (match Nat.blt s.length 4294967281&&Nat.blt 10 256 with
    | true=>some (AV.ql 1 ((zDP 10 s).map .str))
    | false=>none)=_
   rw [show Nat.blt s.length 4294967281=true from by rw [Qm];omega]
   rfl
  have k:=zC (n:=65539) (by omega)
  obtain ⟨v,j,w,d,rfl,g⟩:=zUx hs h8 (ps:=zDP 10 s) (g0:=Int.ofNat 0) (g1:=Int.ofNat 0) (h0:=Int.ofNat 0) (h1:=Int.ofNat 0) (s.length+1) 0 0 [] FUEL FUEL (QP _) (by omega) rfl (QA _) (QA _) (λ _ h=>by cases h) (by omega) (by omega)
  refine ⟨w,zi ?_,zi ?_,g⟩
  ·rw [zLx];refine Wp.ite (λ h=>absurd h (by rw [qr];omega)) λ _=>zZe he ?_
   rw [QO];exact ⟨_,j,rfl⟩
  ·rw [zFd];exact Wp.ite (λ h=>absurd h (by rw [qr];omega)) λ _=>⟨_,d,rfl⟩
 ·refine ⟨.qc [.qa,.agg [.int .i64 (Int.ofNat 3),.int .i64 (Int.negSucc 0)]],zi ?_,zi ?_,.inl ⟨_,_,rfl⟩⟩
  ·rw [zLx];exact Wp.ite (λ _=>Wp.mk rfl) λ h=>absurd (show Int.ofNat s.length > 65536 by rw [qr];omega) h
  ·rw [zFd];exact Wp.ite (λ _=>Wp.mk rfl) λ h=>absurd (show Int.ofNat s.length > 65536 by rw [qr];omega) h
end Go.Proofs.YtdeeimaahdgeaaaGreatDoor.spec
namespace Go.Proofs.YtdeeimaahdgeaaaGreatDoor.spec
open Go Go.Sy
variable [MX]
theorem zVR {r:List AV} (j:NdL r) (hl:r.length<=64):zDD r r=some (.bool true):=by
 have loop:∀(f i:Nat),i<=r.length->r.length-i<f->Wp (zBD f (Int.ofNat i) r r) λ v=>v=.bool true:=by
  intro f
  induction f with
  | zero=>intro i _ h;omega
  | succ f q=>
   intro i u t;rw [zHX];refine Wp.lt (λ d=>?_) λ _=>Wp.mk rfl
   obtain ⟨k,a,b,n,x,y,e⟩:=j _ (Qq d);have g:ixN r (Int.ofNat i)=some (nd6 k a b n x y):=by
    show r[i]? = _
    rw [QC d,e]
   refine zEG g (zEG g ?_)
   simp only [beq_self_eq_true,zK,decide_true,Bool.and_self,Bool.not_true];show Wp (br false _ _) _
   rw [zEF,zc (by omega)]
   exact q (i+1) d (by omega)
 refine zi ?_
 rw [zI2];exact Wp.if (λ h=>by rw [bne_self_eq_false] at h;cases h) λ _=>loop FUEL 0 (QP _) (by have:=zC (n:=1025) (by omega);omega)
theorem zP8 {l:List AV} (hl:l.length<=100000) (D:∀x∈l,Ok13 x):zDp l l=some (.bool true):=by
 have loop:∀(f i:Nat),i<=l.length->l.length-i<f->Wp (zBk f l l (Int.ofNat i)) λ v=>v=.bool true:=by
  intro f
  induction f with
  | zero=>intro i _ h;omega
  | succ f E=>
   intro i G F;rw [zHx];refine Wp.lt (λ g=>?_) λ _=>Wp.mk rfl
   obtain ⟨⟨k,n,u,b,c,d,q,z,t,x3,x4,r,j⟩,e,C,B⟩:=D _ (Qq g);have A:ixN l (Int.ofNat i)=some (.agg [.int .i64 k,.str n,.str u,.int .i64 b,.int .i64 c,.int .i64 d,.str q,.int .i64 z,.int .i64 t,.int .i64 x3,.int .i64 x4,.ql 6 r,.int .i64 j]):=by
    show l[i]? = _
    rw [QC g,e]
   have hs:zDE k n u b c d q z t x3 x4 r j k n u b c d q z t x3 x4 r j=some (.bool true):=by
    rw [zI3,zVR C B];simp only [beq_self_eq_true,zK,decide_true,Bool.and_self,zKp,ek_b]
   refine zId A (zId A (qk_b hs ?_))
   show Wp (br false _ _) _
   rw [zEF,zc (by omega)]
   exact E (i+1) g (by omega)
 refine zi ?_
 rw [zIJ];exact Wp.if (λ h=>by rw [bne_self_eq_false] at h;cases h) λ _=>loop FUEL 0 (QP _) (by have:=zC (n:=100001) (by omega);omega)
theorem zRi {β:Type} {P:β->Prop} {f:List AV->Int->Int->Option β} {o:Option AV} {x y:Int} (h:o=some (.qc [.qa,.agg [.int .i64 x,.int .i64 y]])) (k:Wp (f [] x y) P):Wp (dK true [K.qc 2,K.l 13,K.agg 2,K.i IntKind.i64,K.i IntKind.i64] o f) P:=by
 subst h;exact k
theorem zRj {β:Type} {P:β->Prop} {f:List AV->Int->Int->Option β} {o:Option AV} {l:List AV} {x y:Int} (h:o=some (.qc [.ql 13 l,.agg [.int .i64 x,.int .i64 y]])) (k:Wp (f l x y) P):Wp (dK true [K.qc 2,K.l 13,K.agg 2,K.i IntKind.i64,K.i IntKind.i64] o f) P:=by
 subst h;exact k
theorem law (s:List Nat) (h8:∀c∈s,c<256):zCO s=some (.bool true):=by
 obtain ⟨v,g,d,j⟩:=zUy s h8;refine zi ?_
 rw [zHY];refine qk_b zVr (Wp.if (λ h=>by cases h) λ _=>?_)
 rcases j with ⟨p,q,rfl⟩ | ⟨l,rfl,hl,k⟩
 ·refine zRi g (zRi d (qk_b (zP8 (QP _) λ _ h=>by cases h) ?_))
  refine Wp.if (λ _=>Wp.mk ?_) λ h=>by cases h
  show AV.bool (p==p&&q==q)=_
  simp
 ·refine zRj g (zRj d (qk_b (zP8 k hl) ?_))
  exact Wp.if (λ _=>Wp.mk rfl) λ h=>by cases h
theorem zYZ (a:List Nat) (h:∀c∈a,c<256):FnT Tryz.prog G0 3 [.str a] [] 0 (.bool true) [] 0:=by
 have e:=law a h;have d:zC6 Tryz.prog G0 3 (gV t114 1 3):=(t114.ok FUEL).at;refine (d _ _ (λ z g=>?_) (by unfold zCO at e;exact e)).2.2 [] 0
 rw [Qc.1 g];exact .str _
end Go.Proofs.YtdeeimaahdgeaaaGreatDoor.spec
