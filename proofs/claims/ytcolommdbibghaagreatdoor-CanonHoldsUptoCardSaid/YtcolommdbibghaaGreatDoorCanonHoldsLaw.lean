/- THE LAW OF THE LEAN FUNCTIONS, IN PLAIN LEAN: part 2. No condition. -/
import Derived.Test.YtcolommdbibghaaGreatDoorCanonHoldsLawA
set_option linter.unusedVariables false
set_option linter.unusedSimpArgs false
set_option linter.unusedSectionVars false
open Int(ofNat)
namespace Go.Proofs.YtcolommdbibghaaGreatDoor.canon
open Go Go.Sy
def zSY(a:JV):Bool:=a.all wrdB&&decide (1<=a.length/\a.length<=32)
structure Pr where
 n:JV
 v:JV
def Pr.av(x:Pr):AV:=.agg [.str x.n,.str x.v]
abbrev pvs(l:List Pr):JE:=l.map Pr.av
structure Pok(l:List Pr):Prop where
 n:∀x∈l,x.n.length<=2000000
 v:∀x∈l,x.v.length<=2000000/\∀c∈x.v,c<256
 len:l.length<=2000000
theorem zKs:∀a b:JV,slt a b=decide (a<b)
 |_,[]=>by simp[slt]
 |[],_::_=>by simp[slt]
 |a::x,b::y=>by
  have e:=zKs x y;simp only[slt,List.cons_lt_cons_iff];by_cases h1:a<b
  .rw[show Nat.blt a b=true from by rw[Qg];exact h1];simp[h1]
  .rw[show Nat.blt a b=false from by rw[←Bool.not_eq_true,Qg];exact h1]
   by_cases d:a=b
   .subst d;rw[show Nat.beq a a=true from Nat.beq_refl a]
    simp only[e];simp
   .rw[show Nat.beq a b=false from by rw[←Bool.not_eq_true,Nat.beq_eq];exact d]
    simp[h1,d]
theorem zYe(a b:JV):(slt a b||seqb a b)=!slt b a:=by
 rw[zKs,zKs,zAG];by_cases h1:a<b
 .have:=List.lt_asymm h1;simp[h1,this]
 .by_cases d:a=b
  .subst d;simp[h1]
  .have:b<a:=by
    rcases List.le_iff_lt_or_eq.1 (List.not_lt.1 h1)with h|h
    .exact h
    .exact absurd h.symm d
   simp[h1,d,this]
section
variable{β:Type}{P:β->Prop}
theorem zJR{wk:Bool}{l:List Pr}{i:Nat}(a:i<l.length){f:JV->JV->Option β}(k:Wp (f l[i].n l[i].v) P):Wp (dK wk yq (ixN (pvs l) (ofNat i)) f) P:=zWL (zSP a) k
end
theorem zRB(s:JV)(p:s.length<=2000000):zGQ s=some (.bool (zGk 24 s)):=by
 have loop:∀(n i:Nat),i<=s.length->s.length-i<n->zDE n (ofNat (bytes s).length) (ofNat i) (bytes s)=some (.bool ((s.drop i).all namB)):=by
  intro n
  induction n with
  |zero=>intro i _ h;omega
  |succ n u=>
   intro i w y;refine zj ?_
   rw[zKi];rw[QP];refine Wd (λh=>zIC h (zV5 (zRl h) ?_)) λg=>Wb ?_
   .have next:∀b:Bool,b=!namB s[i]->Wp (zAT n (ofNat s.length) (ofNat i) b (bytes s)) λv=>v=.bool ((s.drop i).all namB):=λb e=>by
     rw[zKh,Qd h,QU];refine Wa (λk=>Wb ?_) λk=>?_
     .have:namB s[i]=false:=by rw[k]at e;simpa using e.symm
      rw[this];rfl
     .have:namB s[i]=true:=by rw[k]at e;simpa using e.symm
      have:=u (i+1) h (by omega)
      rw[QP]at this;rw[zq (by omega),this,‹namB s[i]=true›]
      exact Wb rfl
    generalize s[i]=c at next
    repeat' first|refine Wc (λ_=>?_) (λ_=>?_)|refine qk_b (zFA _) ?_|refine Wa (λ_=>?_) (λ_=>?_)|refine next _ ?_
    all_goals simp only[QB,Bool.not_eq_true',decide_eq_true_eq,decide_eq_false_iff_not,Bool.not_eq_false']at *
    all_goals unfold namB zAP zE
    all_goals rw[Bool.eq_iff_iff]
    all_goals simp
    all_goals omega
   .rw[Qu g];rfl
 have d:∀b:Bool,(b=true->zGk 24 s=false)->(b=false->zGk 24 s=s.all namB)->zBs s b=some (.bool (zGk 24 s)):=λb h1 j=>by
  refine zj ?_
  rw[zKk];refine Wa (λh=>Wb (by rw[h1 h])) λh=>?_
  rw[zKj];refine⟨_,loop zg 0 (QV _) (zT (by omega)),?_⟩
  rw[j h];rfl
 refine zj ?_
 rw[zMm];refine Wc (λh=>⟨_,d _ (λ_=>?_) (λh=>by cases h),rfl⟩) λr=>Wc (λh=>⟨_,d _ (λ_=>?_) (λh=>by cases h),rfl⟩) λh1=>?_
 .unfold zGk;rw[zCX (by rw[QB]at h;omega)];simp
 .unfold zGk;rw[Qr (by rw[QB]at h;omega)];simp
 .rw[QB]at r h1;have p:0<s.length:=by omega
  have t:ixN s 0=some s[0]:=zDW p;have q:decide (s.length<=24)=true:=Qq (by omega)
  have a:isAt zAP s 0=zAP s[0]:=zCF p;rw[t];refine Wc (λh=>⟨_,d _ (λ_=>?_) (λh=>by cases h),rfl⟩) λj=>⟨_,d _ (λh=>?_) (λh=>?_),rfl⟩
  .unfold zGk;rw[q,a];unfold zAP;rw[Qr (by rw[QB]at h;omega)];simp
  .have h:=Qc h;unfold zGk;rw[q,a];unfold zAP;rw[Qr (by rw[QB]at h;omega)];simp
  .have h:=Qz h;unfold zGk;rw[q,a];unfold zAP;rw[Qq (by rw[QB]at h j;omega)];simp
theorem zRC(s:JV)(e:s.length<=2000000)(h8:∀c∈s,c<256):zGR s=some (.bool (zSY s)):=by
 have loop:∀(n i:Nat),i<=s.length->s.length-i<n->zDF n (ofNat (bytes s).length) (ofNat i) (bytes s)=some (.bool ((s.drop i).all wrdB)):=by
  intro n
  induction n with
  |zero=>intro i _ h;omega
  |succ n d=>
   intro i g j;refine zj ?_
   rw[zKl,QP];refine Wd (λh=>zIC h (zV5 (zRl h) (qk_b (zKq _ (h8 _ (Qi h))) ?_))) λa=>Wb ?_
   .rw[Qd h,QU];cases hw:wrdB s[i]with
    |false=>exact Wb rfl
    |true=>
     have:=d (i+1) h (by omega)
     rw[QP]at this;rw[zq (by omega)]
     exact⟨_,this,rfl⟩
   .rw[Qu a];rfl
 refine zj ?_
 rw[zMn];unfold zSY;refine Wc (λh=>Wb ?_) λb=>Wc (λh=>Wb ?_) λh1=>?_
 .rw[Qr (by rw[QB]at h;omega),Bool.and_false]
 .rw[Qr (by rw[QB]at h;omega),Bool.and_false]
 .rw[Qq (by rw[QB]at b h1;omega),QO,zKm]
  exact⟨_,loop zg 0 (QV _) (zT (by omega)),rfl⟩
def gdP(l:List Pr)(j:Nat)(b:j<l.length):Prop:=zGk 24 l[j].n=true/\zSY l[j].v=true/\∀a:0<j,slt l[j-1].n l[j].n=true
def zIh(l:List Pr):Prop:=l.length<=16/\∀j a,gdP l j a
def AtR(l:List Pr)(v:AV):Prop:=∃c:Int,v=.int .i64 c/\(c=0/\zIh l\/c=2/\¬zIh l)
theorem zMR(l:List Pr)(h:Pok l):Wp (zHy (pvs l)) (AtR l):=by
 have bad:¬zIh l->Wp (some (AV.int .i64 2)) (AtR l):=λh=>Wb ⟨2,rfl,.inr ⟨rfl,h⟩⟩
 have D:=h.len;have loop:l.length<=16->∀(n i:Nat),i<=l.length->l.length-i<n->(∀j g,j<i->gdP l j g)->Wp (zEe n (pvs l) (pvs l) (ofNat l.length) (ofNat i)) (AtR l):=by
  intro k n
  induction n with
  |zero=>intro i _ h;omega
  |succ n C=>
   intro i E F t;rw[zKA];refine Wd (λa=>zJR a ?_) λy=>Wb ⟨0,rfl,.inl ⟨rfl,k,λj g=>t j g (by omega)⟩⟩
   have next:∀b:Bool,(b=true->¬gdP l i a)->(b=false->gdP l i a)->Wp (zBT n (pvs l) (pvs l) (ofNat l.length) (ofNat i) b) (AtR l):=λb A p=>by
    rw[zKz];refine Wa (λe=>bad λq=>A e (q.2 i a)) λe=>?_
    rw[zq (by omega)]
    refine C (i+1) a (by omega) λj g B=>?_
    by_cases r:j<i
    .exact t j g r
    .have:j=i:=by omega
     subst this;exact p e
   refine qk_b (zRB _ (h.n _ (Qi a))) (Wa (λe=>next _ (λ_ q=>by rw[q.1]at e;cases e) λq=>by cases q) λw=>qk_b (zRC _ (h.v _ (Qi a)).1 (h.v _ (Qi a)).2) (Wa (λe=>next _ (λ_ q=>by rw[q.2.1]at e;cases e) λq=>by cases q) λu=>Wc (λd=>?_) λd=>?_))
   .rw[QB]at d;rw[zCU (by omega) (by omega)]
    refine zJR (i:=i-1) (by omega) ?_
    rw[zYe];exact next _ (λe q=>by rw[q.2.2 (by omega)]at e;cases e) λe=>⟨by simpa using w,by simpa using u,λz=>by simpa using e⟩
   .rw[QB]at d;exact next _ (λe=>by cases e) λ_=>⟨by simpa using w,by simpa using u,λz=>by omega⟩
 rw[zNa,QP];refine Wc (λd=>bad λq=>?_) λd=>loop ?_ _ 0 (QV _) (zT (by omega)) λj g h=>by omega
 .have:=q.1;rw[QB]at d;omega
 .rw[QB]at d;omega
theorem zSg{l:List Pr}(h:zIh l):∀(k j:Nat)(a:j<l.length)(hk:j+k+1<l.length),l[j].n<l[j+k+1].n:=by
 intro k
 induction k with
 |zero=>
  intro j a hk;have:=(h.2 (j+1) (by omega)).2.2 (by omega)
  rw[zKs,decide_eq_true_eq]at this
  simpa using this
 |succ k b=>
  intro j a hk;have h1:=b j a (by omega)
  have:=(h.2 (j+(k+1)+1) hk).2.2 (by omega)
  rw[zKs,decide_eq_true_eq]at this;have this:l[j+k+1].n<l[j+(k+1)+1].n:=by simpa[Nat.add_assoc]using this
  exact List.lt_trans h1 this
theorem zVk{l:List Pr}(h:zIh l){i j:Nat}(d:i<l.length)(b:j<l.length)(e:l[i].n=l[j].n):i=j:=by
 rcases Nat.lt_trichotomy i j with q|q|q
 .have:=zSg h (j-i-1) i d (by omega)
  have a:i+(j-i-1)+1=j:=by omega
  simp only[a]at this;rw[e]at this;exact absurd this (List.lt_irrefl _)
 .exact q
 .have:=zSg h (i-j-1) j b (by omega)
  have a:j+(i-j-1)+1=i:=by omega
  simp only[a]at this;rw[e]at this;exact absurd this (List.lt_irrefl _)
def eqS(a b:JV):Bool:=decide (a=b)
theorem zQd(a b:JV):seqb a b=eqS a b:=zAG a b
def zIT(v:JV):Bool:=v.all zE&&decide (1<=v.length/\v.length<=12)
theorem zJ1(s:JV)(g:s.length<=2000000):zEf s=some (.bool (zIT s)):=by
 have loop:∀(n i:Nat),i<=s.length->s.length-i<n->zCO n (ofNat (bytes s).length) (ofNat i) (bytes s)=some (.bool ((s.drop i).all zE)):=by
  intro n
  induction n with
  |zero=>intro i _ h;omega
  |succ n b=>
   intro i j k;refine zj ?_
   rw[zI5,QP];refine Wd (λh=>zIC h (zV5 (zRl h) (qk_b (zFA _) ?_))) λa=>Wb ?_
   .rw[Qd h,QU];have e:decide (48<=ofNat s[i]/\ofNat s[i]<=57)=zE s[i]:=by
     unfold zE;exact decide_eq_decide.2 (by rw[QB];omega)
    rw[e];cases hw:zE s[i]with
    |false=>exact Wb rfl
    |true=>
     have:=b (i+1) h (by omega)
     rw[QP]at this;rw[zq (by omega)]
     exact⟨_,this,rfl⟩
   .rw[Qu a];rfl
 refine zj ?_
 rw[zKB];unfold zIT;refine Wc (λh=>Wb ?_) λd=>Wc (λh=>Wb ?_) λh1=>?_
 .rw[Qr (by rw[QB]at h;omega),Bool.and_false]
 .rw[Qr (by rw[QB]at h;omega),Bool.and_false]
 .rw[Qq (by rw[QB]at d h1;omega),QO,zI6]
  exact⟨_,loop zg 0 (QV _) (zT (by omega)),rfl⟩
def fnd(l:List Pr)(a:JV):Option JV:=(l.find? λx=>eqS x.n a).map Pr.v
theorem zVl{l:List Pr}{a:JV}(h:∀x∈l,x.n≠a):fnd l a=none:=by
 unfold fnd;rw[List.find?_eq_none.2 λx b=>by have:=h x b;simp[eqS,this]]
 rfl
theorem zVm{l:List Pr}(h:zIh l){j:Nat}(b:j<l.length){a:JV}(e:l[j].n=a):fnd l a=some l[j].v:=by
 unfold fnd;cases hf:l.find? (λx=>eqS x.n a)with
 |none=>exact absurd (List.find?_eq_none.1 hf _ (Qi b)) (by simp[eqS,e])
 |some x=>
  have h1:=List.find?_some hf;obtain⟨i,d,rfl⟩:=List.getElem_of_mem (List.mem_of_find?_eq_some hf);have h1:l[i].n=a:=Qc h1;have:=zVk h d b (h1.trans e.symm);subst this;rfl
theorem zYf(l:List Pr)(D:l.length<=2000000)(k:Int)(a b:JV)(n p q:Int):∃z,zG (pvs l) k a b n p q=some (.int .i64 z)/\((z=Int.negSucc 0/\∀x∈l,x.n≠a)\/∃j,∃g:j<l.length,z=ofNat j/\l[j].n=a):=by
 have loop:∀(m i:Nat),i<=l.length->l.length-i<m->(∀j (g:j<l.length),j<i->l[j].n≠a)->Wp (zB m (pvs l) k a b n p q (ofNat l.length) (ofNat i)) λv=>∃z,v=.int .i64 z/\((z=Int.negSucc 0/\∀x∈l,x.n≠a)\/∃j,∃g:j<l.length,z=ofNat j/\l[j].n=a):=by
  intro m
  induction m with
  |zero=>intro i _ h;omega
  |succ m C=>
   intro i E F r;rw[zBA];refine Wd (λd=>zJR d (qk_b (zLQ ..) ?_)) λt=>Wb ⟨_,rfl,.inl ⟨rfl,λx A=>?_⟩⟩
   .rw[zAG];refine Wc (λe=>Wb ⟨_,rfl,.inr ⟨i,d,rfl,e⟩⟩) λe=>?_
    rw[zq (by omega)]
    refine C (i+1) d (by omega) λj g w=>?_
    by_cases u:j<i
    .exact r j g u
    .have:j=i:=by omega
     subst this;exact e
   .obtain⟨j,g,rfl⟩:=List.getElem_of_mem A;exact r j g (by omega)
 rw[zB0,QP];obtain⟨v,B,z,rfl,y⟩:=loop zg 0 (QV _) (zT (by omega)) λj g h=>by omega
 exact⟨z,B,y⟩
def zMS(l:List Pr)(k:Int)(a b:JV)(n:Int):Bool:=match fnd l a with
 |some v=>if k=1 then true else if k=2 then eqS v b else if k=3 then !eqS v b else if k=4 then zIT v&&decide (n<=ofNat (zER v))else if k=5 then zIT v&&decide (ofNat (zER v)<=n)else true
 |none=>decide (k=1\/k=3)
def zt(l:List Pr):RT->Bool
 |.leaf k a b n=>zMS l k a b n
 |.not t=>!zt l t
 |.two k t u=>if k=8 then zt l t&&zt l u else zt l t||zt l u
theorem zQe{v:JV}(h:zIT v=true):zBZ v=some (.int .i64 (ofNat (zER v))):=by
 unfold zIT at h;simp only[qr,decide_eq_true_eq]at h;obtain⟨y,a,e⟩:=zP7 v h.2.2 (QD.1 h.1);rw[a,e (by omega)]
theorem zWS{es:JE}{l:List Pr}(J:Pok l)(R:zIh l):∀(t:RT)(o d:Nat),t.size<=d->t.size<=1000->Seg es t o->t.kd->zAM d es (ofNat (o+t.size-1)) (pvs l)=some (.bool (zt l t)):=by
 have B:=J.len;have w:∀(d j:Nat)(k:Int)(a b:JV)(n p q:Int)(Q:AV->Prop),es[j]?=some (nd6 k a b n p q)->(∀z,((z=Int.negSucc 0/\∀x∈l,x.n≠a)\/∃j,∃A:j<l.length,z=ofNat j/\l[j].n=a)->zG (pvs l) k a b n p q=some (.int .i64 z)->Wp (zAM (d+1) es (ofNat j) (pvs l)) Q)->Wp (zAM (d+1) es (ofNat j) (pvs l)) Q:=λd j k a b n p q Q T O=>by
  obtain⟨z,D,hc⟩:=zYf l B k a b n p q;exact O z hc D
 intro t
 induction t with
 |leaf k a b n=>
  intro o d g D hs hk;have r:(RT.leaf k a b n).size=1:=rfl;obtain⟨d,rfl⟩:∃e,d=e+1:=⟨d-1,by omega⟩
  refine zj ?_
  rw[r,show o+1-1=o by omega]
  refine w d o k a b n _ _ _ hs.leaf λz hc y=>?_
  rw[zFH];refine zB5 hs.leaf (zCA y ?_)
  rw[show zt l (.leaf k a b n)=zMS l k a b n from rfl]
  unfold zMS;rcases hc with⟨rfl,E⟩|⟨j,A,rfl,e⟩
  .rw[zVl E];obtain rfl|rfl|rfl|rfl|rfl|rfl:k=1\/k=2\/k=3\/k=4\/k=5\/k=6:=by have:=hk.1;have:=hk.2;omega
   .exact Wt rfl (Wb rfl)
   .exact Wf rfl<|Wt rfl (Wc (λh=>by exact absurd h (by decide)) λ_=>Wb rfl)
   .exact Wf rfl<|Wf rfl<|Wt rfl (Wc (λ_=>Wb rfl) λh=>by exact absurd (show Int.negSucc 0<0 by decide) h)
   .exact Wf rfl<|Wf rfl<|Wf rfl<|Wt rfl (Wc (λh=>by exact absurd h (by decide)) λ_=>Wb rfl)
   .exact Wf rfl<|Wf rfl<|Wf rfl<|Wf rfl<|Wt rfl (Wc (λh=>by exact absurd h (by decide)) λ_=>Wb rfl)
   .exact Wf rfl<|Wf rfl<|Wf rfl<|Wf rfl<|Wf rfl<|Wf rfl<|Wf rfl<|Wf rfl<|Wb rfl
  .rw[zVm R A e];have M:=J.v _ (Qi A);obtain rfl|rfl|rfl|rfl|rfl|rfl:k=1\/k=2\/k=3\/k=4\/k=5\/k=6:=by have:=hk.1;have:=hk.2;omega
   .exact Wt rfl (Wb rfl)
   .exact Wf rfl<|Wt rfl (Wc (λ_=>zJR A (Wb (by rw[zQd];rfl))) λh=>by exact absurd (Qf _) h)
   .exact Wf rfl<|Wf rfl<|Wt rfl (Wc (λh=>by exact absurd h (Int.not_lt.2 (Qf _))) λ_=>zJR A (Wb (by rw[zQd];rfl)))
   .exact Wf rfl<|Wf rfl<|Wf rfl<|Wt rfl (Wc (λ_=>zJR A (qk_b (zJ1 _ M.1) (Wa (λg=>zJR A (zCA (zQe g) (Wb (by show _=AV.bool (zIT l[j].v&&_);rw[g];rfl)))) λg=>Wb (by show _=AV.bool (zIT l[j].v&&_);rw[g];rfl)))) λh=>by exact absurd (Qf _) h)
   .exact Wf rfl<|Wf rfl<|Wf rfl<|Wf rfl<|Wt rfl (Wc (λ_=>zJR A (qk_b (zJ1 _ M.1) (Wa (λg=>zJR A (zCA (zQe g) (Wb (by show _=AV.bool (zIT l[j].v&&_);rw[g];rfl)))) λg=>Wb (by show _=AV.bool (zIT l[j].v&&_);rw[g];rfl)))) λh=>by exact absurd (Qf _) h)
   .exact Wf rfl<|Wf rfl<|Wf rfl<|Wf rfl<|Wf rfl<|Wf rfl<|Wf rfl<|Wf rfl<|Wb (by rw[Qq (show ofNat j>=0 from Qf _)];rfl)
 |not t S=>
  intro o d g D hs hk;have r:(RT.not t).size=t.size+1:=rfl;obtain⟨d,rfl⟩:∃e,d=e+1:=⟨d-1,by omega⟩
  obtain⟨G,C⟩:=hs.not;refine zj ?_
  rw[r,show o+(t.size+1)-1=o+t.size by omega]
  refine w d (o+t.size) _ _ _ _ _ _ _ C λz hc y=>?_
  rw[zFH];refine zB5 C (zCA y ?_)
  exact Wf rfl<|Wf rfl<|Wf rfl<|Wf rfl<|Wf rfl<|Wt rfl (qk_b (S o d (by omega) (by omega) G hk) (Wb rfl))
 |two k t u H F=>
  intro o d g D hs hk;have r:(RT.two k t u).size=t.size+u.size+1:=rfl;have:=t.size_pos;have:=u.size_pos;obtain⟨d,rfl⟩:∃e,d=e+1:=⟨d-1,by omega⟩
  obtain⟨G,C,K⟩:=hs.two;refine zj ?_
  rw[r,show o+(t.size+u.size+1)-1=o+t.size+u.size by omega]
  refine w d (o+t.size+u.size) _ _ _ _ _ _ _ K λz hc y=>?_
  rw[zFH];refine zB5 K (zCA y ?_)
  have L:=H o d (by omega) (by omega) G hk.2.1
  have I:=F (o+t.size) d (by omega) (by omega) C hk.2.2
  obtain rfl|rfl:=hk.1
  .exact Wf rfl<|Wf rfl<|Wf rfl<|Wf rfl<|Wf rfl<|Wf rfl<|Wt rfl (qk_b L (Wa (λh1=>qk_b I (Wb (by show _=AV.bool (zt l t&&zt l u);rw[h1];rfl))) λh1=>Wb (by show _=AV.bool (zt l t&&zt l u);rw[h1];rfl)))
  .exact Wf rfl<|Wf rfl<|Wf rfl<|Wf rfl<|Wf rfl<|Wf rfl<|Wf rfl<|Wt rfl (qk_b L (Wa (λh1=>Wb (by show _=AV.bool (zt l t||zt l u);rw[h1];rfl)) λh1=>qk_b I (Wb (by show _=AV.bool (zt l t||zt l u);rw[h1];rfl))))
theorem zJ2{l:List Pr}(b:Pok l)(d:zIh l){t:RT}(e:t.wf)(h:t.size<=64)(hc:zBH (t.fl 0)=some (.int .i64 0)):zCo (t.fl 0) (pvs l)=some (.qg [.bool (zt l t),.int .i64 0]):=by
 have a:=t.size_pos;refine zj ?_
 rw[zIk];refine zCA hc (Wf rfl<|?_)
 obtain⟨v,g,c,rfl,⟨rfl,_⟩|⟨rfl,j⟩⟩:=zMR l b
 .refine zCA g (Wf rfl<|?_)
  rw[RT.fl_length,zCU a (by omega)]
  have:=zWS (es:=t.fl 0) b d t 0 zg (Qh (zT (by omega))) (by omega) (Seg.whole t) e.kd
  rw[QS]at this;exact qk_b this (Wb rfl)
 .exact absurd d j
def RT.nB:RT->Nat
 |.leaf ..=>0
 |.not t=>1+(t.nB+if t.tg<2 then 1 else 0)
 |.two k t u=>if k=8 then max (t.nB+if t.tg<1 then 1 else 0) (u.nB+if u.tg<2 then 1 else 0)else max (t.nB+if t.tg<0 then 1 else 0) (u.nB+if u.tg<1 then 1 else 0)
def RT.nP(m:Int)(t:RT):Nat:=t.nB+if t.tg<m then 1 else 0
theorem RT.um(m:Int)(t:RT):t.nP m<=t.nB+1:=by unfold nP;split<;>omega
theorem RT.wS(m:Int)(t:RT):t.nB<=t.nP m:=by unfold nP;omega
theorem RT.wK{m m':Int}(h:m<=m')(t:RT):t.nP m<=t.nP m':=by unfold nP;split<;>split<;>omega
theorem RT.vg(t:RT):0<=t.tg/\t.tg<=2:=by
 cases t with
 |leaf k a b n=>exact(by decide:(0:Int)<=2/\(2:Int)<=2)
 |not t=>exact(by decide:(0:Int)<=2/\(2:Int)<=2)
 |two k t u=>
  show 0<=(if k=9 then(0:Int)else if k=8 then 1 else 2)/\(if k=9 then(0:Int)else if k=8 then 1 else 2)<=2
  by_cases h:k=9
  .rw[if_pos h];decide
  .rw[if_neg h];by_cases h:k=8
   .rw[if_pos h];decide
   .rw[if_neg h];decide
def RdN(m:Int)(g:Nat)(next:Rd):Prop:=∀i n b a t,next i n=.ok (b,a,t)->t.nP m<=g
theorem zSZ{s:JV}{i n b n':Nat}{k:Int}{a:JV}{t:RT}(h:zFx s i n k a=.ok (b,n',t)):t.nP 2<=0:=by
 unfold zFx at h;split at h
 .cases h
 .cases h;exact QA _
theorem zS0{s:JV}{i n b n':Nat}{k:Int}{a:JV}{t:RT}(h:zFy s i n k a=.ok (b,n',t)):t.nP 2<=0:=by
 unfold zFy at h;split at h
 .cases h
 .cases h;exact QA _
theorem zQf{s:JV}{i n a n':Nat}{t:RT}(h:zBQ s i n=.ok (a,n',t)):t.nP 2<=0:=by
 unfold zBQ zBx at h
 repeat' split at h
 all_goals first|(cases h;done)|exact zSZ h|exact zS0 h|(cases h;exact QA _)
theorem zQg{s:JV}{next:Rd}{sg g:Nat}{k m:Int}(hk:k=8/\m=1\/k=9/\m=0)(e:RdN (m+1) g next):∀(f i n d n':Nat)(t b:RT),t.nP m<=g->zDw next s sg k f i n t=.ok (d,n',b)->b.nP m<=g
 |0,i,n,d,n',t,b,a,h=>by cases h;exact a
 |f+1,i,n,d,n',t,b,a,h=>by
  rw[zDw]at h;split at h
  .split at h
   .cases h
   .split at h
    .cases h
    .rename_i i1 p u j;have h1:=e _ _ _ _ _ j;refine zQg hk e f _ _ _ _ _ _ ?_ h
     rcases hk with⟨rfl,rfl⟩|⟨rfl,rfl⟩
     .exact Nat.max_le.2 ⟨a,h1⟩
     .exact Nat.max_le.2 ⟨a,h1⟩
  .cases h;exact a
theorem zIi{s:JV}{next:Rd}{sg g:Nat}{k m:Int}(hk:k=8/\m=1\/k=9/\m=0)(a:RdN (m+1) g next):RdN m g (zBn next s sg k):=by
 intro i n j d t h;unfold zBn at h;split at h
 .cases h
 .rename_i i1 e u b;exact zQg hk a _ _ _ _ _ _ _ (QI (RT.wK (by omega) u) (a _ _ _ _ _ b)) h
theorem zN5(s:JV):∀g,RdN 2 g (zC4 s g)
 |0,i,n,d,b,t,h=>by
  rw[zC4]at h;split at h
  .cases h
  .exact zQf h
 |g+1,i,n,d,b,t,h=>by
  rw[zC4]at h;split at h
  .split at h
   .cases h
   .unfold notM at h;split at h
    .cases h
    .rename_i i1 j u a;have h1:=zN5 s g _ _ _ _ _ a;cases h;have e:(RT.not u).nP 2=1+u.nP 2+0:=rfl;rw[e];omega
  .split at h
   .unfold zKo at h;split at h
    .cases h
    .rename_i a;have h1:=zIi (s:=s) (sg:=124) (k:=9) (m:=0) (.inr ⟨rfl,rfl⟩) (zIi (s:=s) (sg:=38) (k:=8) (m:=1) (.inl ⟨rfl,rfl⟩) (zN5 s g)) _ _ _ _ _ a;split at h
     .cases h;have:=RT.wS 0 t;have:=RT.um 2 t;omega
     .cases h
   .exact QI (zQf h) (QV _)
theorem zYg(s:JV)(g:Nat):RdN 0 g (orM s g):=zIi (.inr ⟨rfl,rfl⟩) (zIi (.inl ⟨rfl,rfl⟩) (zN5 s g))
theorem zTU{s:JV}{t:RT}(h:zBE s=.ok t):t.nB<=32:=by
 unfold zBE at h;split at h
 .cases h
 .split at h
  .cases h
  .rename_i a;split at h
   .cases h
   .split at h
    .cases h
    .cases h;exact QI (RT.wS 0 t) (zYg s 32 _ _ _ _ _ a)
theorem z3{s r w:JV}{p:Nat}(h:s.drop p=w++r):s.drop (p+w.length)=r:=by
 rw[←List.drop_drop,h,List.drop_left]
theorem zAo{s r:JV}{p c:Nat}(h:s.drop p=c::r):s[p]?=some c:=by
 have:(s.drop p)[0]?=some c:=by rw[h];rfl
 rwa [List.getElem?_drop,Nat.add_zero]at this
theorem zSh{s:JV}{p:Nat}(h:s.drop p=[]):s[p]? = none:=by
 have:(s.drop p)[0]? = none:=by rw[h];rfl
 rwa [List.getElem?_drop,Nat.add_zero]at this
def hdN(f:Nat->Bool)(r:JV):Prop:=∀c a,r=c::a->f c=false
theorem zMT{f:Nat->Bool}{s r w:JV}{p:Nat}(h:s.drop p=w++r)(a:∀c∈w,f c=true)(d:hdN f r):rn f s p=w.length:=by
 unfold rn;rw[h];have:(w++r).takeWhile f=w:=by
  clear h
  induction w with
  |nil=>
   cases r with
   |nil=>rfl
   |cons c r=>exact List.takeWhile_cons_of_neg (by rw[d c r rfl];decide)
  |cons c w b=>
   rw[List.cons_append,List.takeWhile_cons_of_pos (a c (.head _)),b λc hc=>a c (.tail _ hc)]
 rw[this]
theorem zMU{s r w:JV}{p:Nat}(h:s.drop p=w++r):cutS s p (p+w.length)=w:=by
 unfold cutS;rw[List.drop_take,h,Nat.add_sub_cancel_left,List.take_left]
theorem zLr{f:Nat->Bool}{s r:JV}{p:Nat}(h:s.drop p=r)(a:hdN f r):isAt f s p=false:=by
 unfold isAt;cases r with
 |nil=>rw[zSh h]
 |cons c r=>rw[zAo h];exact a c r rfl
theorem zKt{f:Nat->Bool}{s r:JV}{p c:Nat}(h:s.drop p=c::r):isAt f s p=f c:=by
 unfold isAt;rw[zAo h]
theorem zDd{s r:JV}{p c:Nat}(h:s.drop p=c::r)(hc:c≠32):sk s p=p:=zGj ((zKt h).trans (beq_eq_false_iff_ne.2 hc))
theorem zJn{s r:JV}{p c:Nat}(h:s.drop p=32::c::r)(hc:c≠32):sk s p=p+1:=by
 unfold sk;rw[zMT (w:=[32]) (r:=c::r) h (λc hc=>by rw[QY.1 hc];rfl) λb a e=>by cases e;exact beq_eq_false_iff_ne.2 hc]
 rfl
def stp(r:JV):Prop:=r=[]\/(∃a,r=41::a)\/(∃a,r=32::38::32::a)\/∃a,r=32::124::32::a
theorem stp.uo{r:JV}(h:stp r):hdN wrdB r:=λc a e=>by
 rcases h with rfl|⟨x,rfl⟩|⟨x,rfl⟩|⟨x,rfl⟩<;>cases e<;>rfl
theorem hdN.mono{f g:Nat->Bool}{r:JV}(h:hdN g r)(k:∀c,f c=true->g c=true):hdN f r:=λc a e=>by
 cases hf:f c with
 |false=>rfl
 |true=>have:=h c a e;rw[k c hf]at this;cases this
theorem stp.nb{s r:JV}{p:Nat}(h:stp r)(a:s.drop p=r):s[sk s p]? = none/\r=[]\/s[sk s p]?=some 41\/s[sk s p]?=some 38/\(∃b,r=32::38::32::b)\/s[sk s p]?=some 124/\∃b,r=32::124::32::b:=by
 rcases h with rfl|⟨x,rfl⟩|⟨x,rfl⟩|⟨x,rfl⟩
 .refine .inl ⟨?_,rfl⟩
  rw[zGj (zLr a λc b e=>by cases e)]
  exact zSh a
 .refine .inr (.inl ?_)
  rw[zDd a (by decide)]
  exact zAo a
 .refine .inr (.inr (.inl ⟨?_,x,rfl⟩))
  rw[zJn a (by decide)]
  exact zAo (z3 (w:=[32]) a)
 .refine .inr (.inr (.inr ⟨?_,x,rfl⟩))
  rw[zJn a (by decide)]
  exact zAo (z3 (w:=[32]) a)
theorem zN6(c:Nat)(h:namB c=true):wrdB c=true:=by
 unfold namB zAP zE at h;unfold wrdB;simp only[Bool.or_eq_true,decide_eq_true_eq,beq_iff_eq]at h⊢;omega
theorem zQh(c:Nat)(h:zE c=true):wrdB c=true:=by
 unfold zE at h;unfold wrdB;simp only[decide_eq_true_eq]at h⊢;omega
theorem zQi{c:Nat}(h:wrdB c=true):c≠32:=λe=>by subst e;cases h
theorem zQj:∀(m n:Nat),n<m->∀c∈(Lib.decDigits n).map UInt8.toNat,zE c=true
 |0,n,h=>by omega
 |m+1,n,h=>by
  rw[Lib.decDigits];by_cases a:n<10
  .rw[dif_pos a];intro c hc;simp only[Qa,List.map_nil,QY]at hc;rw[hc,zF2 a];exact Qq (by omega)
  .rw[dif_neg a,Qy];intro c hc;rcases QH.1 hc with hc|hc
   .exact zQj m (n / 10) (by omega) c hc
   .simp only[Qa,List.map_nil,QY]at hc;rw[hc,zF2 (Nat.mod_lt _ (by omega))]
    exact Qq (by omega)
theorem zQk:∀(m n:Nat),n<m->zER ((Lib.decDigits n).map UInt8.toNat)=n
 |0,n,h=>by omega
 |m+1,n,h=>by
  rw[Lib.decDigits];by_cases a:n<10
  .rw[dif_pos a];show 10*0+((UInt8.ofNat (48+n)).toNat-48)=n
   rw[zF2 a];omega
  .rw[dif_neg a,Qy];have:=zQk m (n / 10) (by omega)
   unfold zER at this⊢;rw[List.foldl_append,this];show 10*(n / 10)+((UInt8.ofNat (48+n % 10)).toNat-48)=n
   rw[zF2 (Nat.mod_lt _ (by omega))];omega
theorem zQl:∀(m k n:Nat),n<m->n<10 ^ k->0<k->(Lib.decDigits n).length<=k
 |0,k,n,h,_,_=>by omega
 |m+1,k,n,h,hk,d=>by
  rw[Lib.decDigits];by_cases a:n<10
  .rw[dif_pos a];exact d
  .rw[dif_neg a,QJ];obtain⟨k,rfl⟩:∃j,k=j+1:=⟨k-1,by omega⟩
   rw[Nat.pow_succ]at hk;rcases Nat.eq_zero_or_pos k with rfl|b
   .omega
   .have:=zQl m k (n / 10) (by omega) (by omega) b
    show _+1<=k+1
    omega
theorem zVn(n:Nat):0<(Lib.decDigits n).length:=by
 rw[Lib.decDigits];by_cases a:n<10
 .rw[dif_pos a];exact Nat.one_pos
 .rw[dif_neg a,QJ];exact Qw _
theorem zTV(n:Nat):decI (n:Int)=(Lib.decDigits n).map UInt8.toNat:=by
 unfold decI Lib.itoa;rw[if_neg (by omega)];rfl
theorem zOJ{s r:JV}{p:Nat}{n:Int}(u:0<=n)(h1:n<=999999999999)(h:s.drop p=decI n++r)(q:hdN wrdB r):zHh s p=.ok (p+(decI n).length,n):=by
 obtain⟨n,rfl⟩:=Int.eq_ofNat_of_zero_le u;have a:=zQj (n+1) n (QR n);have t:=zQk (n+1) n (QR n);have j:=zQl (n+1) 12 n (QR n) (by omega) (by omega)
 have g:=zVn n;have e:=zTV n;rw[e]at h⊢;generalize k:(Lib.decDigits n).map UInt8.toNat=w at h a t⊢;have j:w.length<=12:=by rw[←k,QP];exact j
 have g:0<w.length:=by rw[←k,QP];exact g
 have d:sk s p=p:=by
  cases w with
  |nil=>exact absurd g (Nat.lt_irrefl 0)
  |cons c w=>exact zDd h (zQi (zQh c (a c (.head _))))
 have b:rn zE s p=w.length:=zMT h a (q.mono zQh);unfold zHh;rw[d,b,Nat.min_eq_right j,if_neg (by rw[zLr (z3 h) q];decide),if_neg (by omega),zMU h,t]
 rfl
theorem zQm{s r w:JV}{p:Nat}(a:zPX w)(h:s.drop p=w++r)(g:hdN wrdB r):zIW s p=.ok (p+w.length,w):=by
 have e:0<w.length:=List.length_pos_iff.2 a.1;have d:sk s p=p:=by
  cases w with
  |nil=>exact absurd e (Nat.lt_irrefl 0)
  |cons c w=>exact zDd h (zQi (a.2.2 c (.head _)))
 have b:rn wrdB s p=w.length:=zMT h a.2.2 g;unfold zIW;rw[d,b,if_neg (by omega),if_neg (by have:=a.2.1;omega),zMU h]
def zE2(s:JV)(j e:Nat):Prop:=e<=j/\sk s j=sk s e
theorem zE2.wQ{s:JV}{e:Nat}:zE2 s e e:=⟨QA _,rfl⟩
theorem zE2.sk(s:JV)(e:Nat):zE2 s (sk s e) e:=⟨zGi s e,zAt s e⟩
theorem zWT{s r:JV}{p m:Nat}{k:Int}{a b:JV}{n:Int}(hk:zPY k a b n)(h:s.drop p=zC5 k a b n++r)(v:stp r)(hm:m+1<=64):
  isAt zAP s p=true/\∃j,zBQ s p m=.ok (j,m+1,.leaf k a b n)/\zE2 s j (p+(zC5 k a b n).length):=by
 rcases hk with⟨rfl,rfl,rfl,rfl⟩|⟨E,A,hk⟩
 .have h:s.drop p=[97,110,121]++r:=h;have y:isAt zAP s p=true:=zKt h;have D:rn namB s p=3:=zMT h (by decide) (v.uo.mono zN6)
  have hc:cutS s p (p+3)=[97,110,121]:=zMU h;refine⟨y,p+3,?_,.wQ⟩
  unfold zBQ;rw[if_neg (by rw[y];decide),D,show min 24 3=3 from rfl,if_neg (by rw[show p+3=p+[97,110,121].length from rfl,zLr (z3 (w:=[97,110,121]) h) v.uo];decide),if_neg (by omega),if_pos hc]
 .have g:∀u,s.drop p=a++u->hdN namB u->hdN wrdB u->isAt zAP s p=true/\zBQ s p m=zBx s (sk s (p+a.length)) m a:=by
   intro u h C B;have y:isAt zAP s p=true:=by
    have d:=E.2.1;cases a with
    |nil=>cases d
    |cons c a=>rw[zKt h];exact d
   have D:rn namB s p=a.length:=zMT h E.2.2 C;refine⟨y,?_⟩
   unfold zBQ;rw[if_neg (by rw[y];decide),D,Nat.min_eq_right E.1,if_neg (by rw[zLr (z3 h) B];decide),if_neg (by omega),zMU h,if_neg A]
  have q:∀(c:Nat)(u:JV),wrdB c=false->hdN namB (c::u)/\hdN wrdB (c::u):=λc u hc=>by
   have d:hdN wrdB (c::u):=λG x e=>by cases e;exact hc
   exact⟨d.mono zN6,d⟩
  rcases hk with⟨hk,F,rfl⟩|⟨hk,rfl,y,h1⟩|⟨rfl,rfl,rfl⟩
  .rcases hk with rfl|rfl
   .have h:s.drop p=a++(61::(b++r)):=by rw[h];show(a++[61]++b)++r=_;simp
    obtain⟨g1,g2⟩:=g _ h (q _ _ rfl).1 (q _ _ rfl).2;have d:=z3 h;have z:s.drop (p+a.length+1)=b++r:=z3 (w:=[61]) d;refine⟨g1,p+a.length+1+b.length,?_,?_⟩
    .rw[g2,zDd d (by decide)]
     unfold zBx zFx;rw[if_pos (zAo d),zQm F z v.uo]
    .have:(zC5 2 a b 0).length=a.length+1+b.length:=by show(a++[61]++b).length=_;simp;omega
     rw[this,show p+(a.length+1+b.length)=p+a.length+1+b.length by omega];exact .wQ
   .have h:s.drop p=a++(33::61::(b++r)):=by rw[h];show(a++[33,61]++b)++r=_;simp
    obtain⟨g1,g2⟩:=g _ h (q _ _ rfl).1 (q _ _ rfl).2;have d:=z3 h;have t:s.drop (p+a.length+1)=61::(b++r):=z3 (w:=[33]) d;have z:s.drop (p+a.length+2)=b++r:=z3 (w:=[33,61]) d;refine⟨g1,p+a.length+2+b.length,?_,?_⟩
    .rw[g2,zDd d (by decide)]
     unfold zBx zFx;rw[if_neg (by rw[zAo d];decide),if_pos ⟨zAo d,zAo t⟩,zQm F z v.uo]
    .have:(zC5 3 a b 0).length=a.length+2+b.length:=by show(a++[33,61]++b).length=_;simp;omega
     rw[this,show p+(a.length+2+b.length)=p+a.length+2+b.length by omega];exact .wQ
  .rcases hk with rfl|rfl
   .have h:s.drop p=a++(62::61::(decI n++r)):=by rw[h];show(a++[62,61]++decI n)++r=_;simp
    obtain⟨g1,g2⟩:=g _ h (q _ _ rfl).1 (q _ _ rfl).2;have d:=z3 h;have t:s.drop (p+a.length+1)=61::(decI n++r):=z3 (w:=[62]) d;have z:s.drop (p+a.length+2)=decI n++r:=z3 (w:=[62,61]) d;refine⟨g1,p+a.length+2+(decI n).length,?_,?_⟩
    .rw[g2,zDd d (by decide)]
     unfold zBx zFy;rw[if_neg (by rw[zAo d];decide),if_neg (λe=>by rw[zAo d]at e;exact absurd e.1 (by decide)),if_pos ⟨zAo d,zAo t⟩,zOJ y h1 z v.uo]
    .have:(zC5 4 a [] n).length=a.length+2+(decI n).length:=by show(a++[62,61]++decI n).length=_;simp;omega
     rw[this,show p+(a.length+2+(decI n).length)=p+a.length+2+(decI n).length by omega];exact .wQ
   .have h:s.drop p=a++(60::61::(decI n++r)):=by rw[h];show(a++[60,61]++decI n)++r=_;simp
    obtain⟨g1,g2⟩:=g _ h (q _ _ rfl).1 (q _ _ rfl).2;have d:=z3 h;have t:s.drop (p+a.length+1)=61::(decI n++r):=z3 (w:=[60]) d;have z:s.drop (p+a.length+2)=decI n++r:=z3 (w:=[60,61]) d;refine⟨g1,p+a.length+2+(decI n).length,?_,?_⟩
    .rw[g2,zDd d (by decide)]
     unfold zBx zFy;rw[if_neg (by rw[zAo d];decide),if_neg (λe=>by rw[zAo d]at e;exact absurd e.1 (by decide)),if_neg (λe=>by rw[zAo d]at e;exact absurd e.1 (by decide)),if_pos ⟨zAo d,zAo t⟩,zOJ y h1 z v.uo]
    .have:(zC5 5 a [] n).length=a.length+2+(decI n).length:=by show(a++[60,61]++decI n).length=_;simp;omega
     rw[this,show p+(a.length+2+(decI n).length)=p+a.length+2+(decI n).length by omega];exact .wQ
  .have h:s.drop p=a++r:=h;obtain⟨g1,g2⟩:=g _ h (v.uo.mono zN6) v.uo;have d:=z3 h;refine⟨g1,sk s (p+a.length),?_,.sk s _⟩
   rw[g2];unfold zBx;have:s[sk s (p+a.length)]? = none\/s[sk s (p+a.length)]?=some 41\/s[sk s (p+a.length)]?=some 38\/s[sk s (p+a.length)]?=some 124:=by
    rcases v.nb d with h|h|h|h
    .exact .inl h.1
    .exact .inr (.inl h)
    .exact .inr (.inr (.inl h.1))
    .exact .inr (.inr (.inr h.1))
   rcases this with e|e|e|e<;>rw[e]<;>rfl
abbrev W(m:Int)(t:RT):JV:=parT t.tg m t.told
def Reads(s:JV)(next:Rd)(m:Int)(t:RT):Prop:=∀(i p n:Nat)(r:JV),sk s i=p->s.drop p=W m t++r->stp r->n+t.size<=64->∃j,next i n=.ok (j,n+t.size,t)/\zE2 s j (p+(W m t).length)
def nsg(sg:Nat)(r:JV):Prop:=∀a,r≠32::sg::32::a
def zNT(s:JV)(next:Rd)(sg:Nat)(k m:Int)(Q:JV->Prop)(t:RT):Prop:=∀(i p n:Nat)(r:JV),sk s i=p->s.drop p=W m t++r->stp r->Q r->n+t.size<=64->∃j f,65<=f+t.size/\zBn next s sg k i n=zDw next s sg k f j (n+t.size) t/\zE2 s j (p+(W m t).length)
def One(s:JV)(t:RT):Prop:=∀g,t.nP 2<=g->Reads s (zC4 s g) 2 t
def zTC(s:JV)(t:RT):Prop:=∀g,t.nP 1<=g->zNT s (zC4 s g) 38 8 1 (λ_=>True) t
def OrH(s:JV)(t:RT):Prop:=∀g,t.nP 0<=g->zNT s (andM s g) 124 9 0 (nsg 38) t
theorem zIG{s:JV}{next:Rd}{sg:Nat}{k m:Int}(g:sg=38\/sg=124){Q:JV->Prop}{t:RT}(h:zNT s next sg k m Q t):∀(i p n:Nat)(r:JV),sk s i=p->s.drop p=W m t++r->stp r->Q r->nsg sg r->n+t.size<=64->∃j,zBn next s sg k i n=.ok (j,n+t.size,t)/\zE2 s j (p+(W m t).length):=by
 intro i p n r h1 u w y v z;obtain⟨j,f,B,e,q⟩:=h i p n r h1 u w y z;obtain⟨f,rfl⟩:∃A,f=A+1:=⟨f-1,by omega⟩
 refine⟨sk s j,?_,QI q.1 (zGi s j),by rw[zAt];exact q.2⟩
 rw[e,zDw];have b:¬s[sk s j]?=some sg:=by
  rw[q.2];intro a;rcases w.nb (z3 u)with h|h|h|h
  .rw[h.1]at a;cases a
  .rw[h]at a;rcases g with rfl|rfl<;>cases a
  .obtain⟨h,d,rfl⟩:=h;rw[h]at a;have a:=Qs a;subst a;exact v d rfl
  .obtain⟨h,d,rfl⟩:=h;rw[h]at a;have a:=Qs a;subst a;exact v d rfl
 rw[if_neg b]
theorem zLU{s:JV}{next:Rd}{sg:Nat}{k m:Int}{Q:JV->Prop}{t:RT}(h:∀(i p n:Nat)(r:JV),sk s i=p->s.drop p=W m t++r->stp r->Q r->n+t.size<=64->∃j,next i n=.ok (j,n+t.size,t)/\zE2 s j (p+(W m t).length)):zNT s next sg k m Q t:=by
 intro i p n r h1 a g b d;obtain⟨j,e,q⟩:=h i p n r h1 a g b d;refine⟨j,65,by omega,?_,q⟩
 unfold zBn;rw[e]
theorem zMV{s:JV}{next:Rd}{sg:Nat}{k m:Int}(h:sg=38\/sg=124){Q:JV->Prop}(H:∀r,Q (32::sg::32::r)){t u:RT}(G:zNT s next sg k m Q t)(M:∀(i p n:Nat)(r:JV),sk s i=p->s.drop p=W (m+1) u++r->stp r->Q r->n+u.size<=64->∃j,next i n=.ok (j,n+u.size,u)/\zE2 s j (p+(W (m+1) u).length))
  (v:∃c w,W (m+1) u=c::w/\c≠32) (i p n:Nat) (r:JV) (h1:sk s i=p) (F:s.drop p=W m t++[32,sg,32]++W (m+1) u++r) (O:stp r) (I:Q r) (S:n+(t.size+u.size+1)<=64):
  ∃j f,65<=f+(t.size+u.size+1)/\zBn next s sg k i n=zDw next s sg k f j (n+(t.size+u.size+1)) (.two k t u)/\zE2 s j (p+(W m t++[32,sg,32]++W (m+1) u).length):=by
 have g:s.drop p=W m t++(32::sg::32::(W (m+1) u++r)):=by rw[F];simp
 have y:stp (32::sg::32::(W (m+1) u++r)):=by
  rcases h with rfl|rfl
  .exact .inr (.inr (.inl ⟨_,rfl⟩))
  .exact .inr (.inr (.inr ⟨_,rfl⟩))
 obtain⟨j,f,T,e,R⟩:=G i p n _ h1 g y (H _) (by omega)
 obtain⟨f,rfl⟩:∃L,f=L+1:=⟨f-1,by have:=t.size_pos;omega⟩
 have D:=z3 g;have q:sg≠32:=by rcases h with rfl|rfl<;>decide
 have A:sk s j=p+(W m t).length+1:=by rw[R.2,zJn D q]
 have d:s.drop (p+(W m t).length+1)=sg::32::(W (m+1) u++r):=z3 (w:=[32]) D;have a:s.drop (p+(W m t).length+1+1)=32::(W (m+1) u++r):=z3 (w:=[sg]) d;have z:s.drop (p+(W m t).length+1+1+1)=W (m+1) u++r:=z3 (w:=[32]) a;have C:sk s (p+(W m t).length+1+1)=p+(W m t).length+1+1+1:=by
  obtain⟨c,w,K,hc⟩:=v;rw[K]at a;exact zJn a hc
 obtain⟨E,J,B⟩:=M (p+(W m t).length+1+1) _ (n+t.size+1) r C z O I (by omega)
 have b:p+(W m t++[32,sg,32]++W (m+1) u).length=p+(W m t).length+1+1+1+(W (m+1) u).length:=by simp;omega
 refine⟨E,f,by omega,?_,by rw[b];exact B⟩
 rw[e,zDw,A,if_pos (zAo d),if_neg (by omega),J]
 show zDw next s sg k f E (n+t.size+1+u.size) (.two k t u)=_
 rw[show n+t.size+1+u.size=n+(t.size+u.size+1) by omega]
theorem zSi{k:Int}{a b:JV}{n:Int}(hk:zPY k a b n):∃c w,zC5 k a b n=c::w/\zAP c=true:=by
 rcases hk with⟨rfl,rfl,rfl,rfl⟩|⟨g,e,hk⟩
 .exact⟨97,[110,121],rfl,rfl⟩
 .have d:=g.2.1;cases a with
  |nil=>cases d
  |cons c a=>
   have d:zAP c=true:=d;rcases hk with⟨hk,j,rfl⟩|⟨hk,rfl,h,h1⟩|⟨rfl,rfl,rfl⟩
   .rcases hk with rfl|rfl<;>exact⟨c,_,rfl,d⟩
   .rcases hk with rfl|rfl<;>exact⟨c,_,rfl,d⟩
   .exact⟨c,_,rfl,d⟩
theorem zSj{c:Nat}(h:zAP c=true):c≠32/\c≠33/\c≠40:=by
 unfold zAP at h;have:=Qc h;omega
theorem zIY:∀{t:RT},t.wf->∃c w,t.told=c::w/\c≠32
 |.leaf k a b n,h=>by
  obtain⟨c,w,e,hc⟩:=zSi h;exact⟨c,w,e,(zSj hc).1⟩
 |.not t,h=>⟨33,_,rfl,by decide⟩
 |.two k t u,h=>by
  obtain⟨c,w,e,hc⟩:=zIY h.2.1;have d:∀m,∃c w,parT t.tg m t.told=c::w/\c≠32:=λm=>by
   unfold parT;split
   .exact⟨40,_,rfl,by decide⟩
   .exact⟨c,w,e,hc⟩
  rw[RT.told];split
  .obtain⟨c,w,e,hc⟩:=d 1;rw[e];exact⟨c,_,rfl,hc⟩
  .obtain⟨c,w,e,hc⟩:=d 0;rw[e];exact⟨c,_,rfl,hc⟩
theorem W_hd{t:RT}(h:t.wf)(m:Int):∃c w,W m t=c::w/\c≠32:=by
 unfold W parT;split
 .exact⟨40,_,rfl,by decide⟩
 .exact zIY h
theorem zLs{t:RT}{m:Int}(h:m<=t.tg):W m t=t.told:=if_neg (by omega)
theorem zV9{t:RT}{m:Int}(h:t.tg<m):W m t=[40]++t.told++[41]:=if_pos h
theorem zQn{s:JV}{t:RT}(h:OrH s t){g:Nat}(q:t.nP 0<=g):∀(i p n:Nat)(r:JV),sk s i=p->s.drop p=t.told++r->stp r->nsg 38 r->nsg 124 r->n+t.size<=64->∃j,orM s g i n=.ok (j,n+t.size,t)/\zE2 s j (p+t.told.length):=by
 intro i p n r h1 b u d k a;have e:W 0 t=t.told:=zLs (RT.vg t).1;have:=zIG (.inr rfl) (h g q) i p n r h1 (by rw[e];exact b) u d k a
 rw[e]at this;exact this
theorem zTW{s:JV}{t:RT}(u:t.tg<2)(B:t.wf)(h:OrH s t):One s t:=by
 intro g F i p n r h1 a G z;have y:W 2 t=[40]++t.told++[41]:=zV9 u;have H:t.nP 2=t.nB+1:=by unfold RT.nP;rw[if_pos u]
 obtain⟨g,rfl⟩:∃A,g=A+1:=⟨g-1,by omega⟩
 rw[y]at a⊢;have a:s.drop p=40::(t.told++(41::r)):=by rw[a];simp
 have d:s.drop (p+1)=t.told++(41::r):=z3 (w:=[40]) a;have k:sk s (p+1)=p+1:=by
  obtain⟨c,w,e,hc⟩:=zIY B;rw[e]at d;exact zDd d hc
 have E:t.nP 0=t.nB:=by unfold RT.nP;rw[if_neg (by have:=(RT.vg t).1;omega)];rfl
 obtain⟨j,e,D⟩:=zQn h (g:=g) (by omega) (p+1) (p+1) n (41::r) k d (.inr (.inl ⟨_,rfl⟩)) (λv e=>by cases e) (λv e=>by cases e) z
 have b:s.drop (p+1+t.told.length)=41::r:=z3 d;have q:sk s (p+1+t.told.length)=p+1+t.told.length:=zDd b (by decide)
 refine⟨p+1+t.told.length+1,?_,?_⟩
 .rw[zC4,h1,if_neg (by rw[zAo a];decide),if_pos (zAo a)]
  have e:zBn (zBn (zC4 s g) s 38 8) s 124 9 (p+1) n=.ok (j,n+t.size,t):=e;rw[e];unfold zKo;show(if s[sk s j]?=some 41 then _ else _)=_
  rw[D.2,q,if_pos (zAo b)]
 .have C:p+([40]++t.told++[41]).length=p+1+t.told.length+1:=by simp;omega
  rw[C];exact .wQ
theorem zJo{s:JV}{t:RT}(k:t.tg≠1)(h:One s t):zTC s t:=by
 have q:=RT.vg t;have e:W 1 t=W 2 t:=by
  by_cases a:t.tg<1
  .rw[zV9 a,zV9 (by omega)]
  .rw[zLs (by omega),zLs (by omega)]
 have v:t.nP 1=t.nP 2:=by
  unfold RT.nP;by_cases a:t.tg<1
  .rw[if_pos a,if_pos (by omega)]
  .rw[if_neg a,if_neg (by omega)]
 intro g u;refine zLU λi p n r h1 b j _ d=>?_
 rw[e]at b⊢;exact h g (by omega) i p n r h1 b j d
theorem zKu{s:JV}{t:RT}(k:t.tg≠0)(h:zTC s t):OrH s t:=by
 have q:=RT.vg t;have e:W 0 t=W 1 t:=by rw[zLs (by omega),zLs (by omega)]
 have v:t.nP 0=t.nP 1:=by unfold RT.nP;rw[if_neg (by omega),if_neg (by omega)]
 intro g u;refine zLU λi p n r h1 a j b d=>?_
 rw[e]at a⊢;exact zIG (.inl rfl) (h g (by omega)) i p n r h1 a j trivial b d
theorem zJp(s:JV):∀t:RT,t.wf->One s t/\zTC s t/\OrH s t
 |.leaf k a b n,B=>by
  have O:∀m:Int,m<=2->W m (.leaf k a b n)=zC5 k a b n:=λm U=>zLs U
  have one:One s (.leaf k a b n):=by
   intro g D i p L r h1 d v y;rw[O 2 (by decide)]at d⊢
   obtain⟨K,j,e,J⟩:=zWT B d v (m:=L) y;refine⟨j,?_,J⟩
   obtain⟨c,w,M,hc⟩:=zSi B;rw[M]at d;have F:=zAo d;have Y:=zSj hc;cases g with
   |zero=>rw[zC4,h1,F,if_neg (by simp only[QK];omega)];exact e
   |succ g=>rw[zC4,h1,F,if_neg (by simp only[QK];omega),if_neg (by simp only[QK];omega)];exact e
  have h1:=zJo (t:=.leaf k a b n) (show(2:Int)≠1 by decide) one
  exact⟨one,h1,zKu (t:=.leaf k a b n) (show(2:Int)≠0 by decide) h1⟩
 |.not t,B=>by
  obtain⟨i1,_,_⟩:=zJp s t B;have one:One s (.not t):=by
   intro g D i p n r h1 d v y;have G:(RT.not t).nP 2=1+t.nP 2+0:=rfl;have T:(RT.not t).size=t.size+1:=rfl;obtain⟨g,rfl⟩:∃R,g=R+1:=⟨g-1,by omega⟩
   have d:s.drop p=33::(W 2 t++r):=d;have H:s.drop (p+1)=W 2 t++r:=z3 (w:=[33]) d;have I:sk s (p+1)=p+1:=by
    obtain⟨c,w,e,hc⟩:=W_hd (t:=t) B 2;rw[e]at H;exact zDd H hc
   obtain⟨j,e,J⟩:=i1 g (by omega) (p+1) (p+1) (n+1) r I H v (by omega)
   refine⟨j,?_,?_⟩
   .rw[zC4,h1,if_pos (zAo d),if_neg (by omega),e]
    show Except.ok (j,n+1+t.size,t.not)=_
    rw[T,show n+1+t.size=n+(t.size+1) by omega]
   .have:p+(W 2 t.not).length=p+1+(W 2 t).length:=by
     show p+(33::W 2 t).length=_
     rw[QZ];omega
    rw[this];exact J
  have h1:=zJo (t:=.not t) (show(2:Int)≠1 by decide) one
  exact⟨one,h1,zKu (t:=.not t) (show(2:Int)≠0 by decide) h1⟩
 |.two k t u,B=>by
  obtain⟨hk,C,h⟩:=B;obtain⟨t1,t2,t3⟩:=zJp s t C;obtain⟨S,Q,X⟩:=zJp s u h;rcases hk with rfl|rfl
  .have z:zTC s (.two 8 t u):=by
    intro g D;have G:(RT.two 8 t u).nP 1=max (t.nP 1) (u.nP 2)+0:=rfl;rw[G]at D;have e:W 1 (RT.two 8 t u)=W 1 t++[32,38,32]++W 2 u:=rfl;intro i p n r h1 d v E y;rw[e]at d⊢;exact zMV (m:=1) (.inl rfl) (λ_=>trivial) (t2 g (by omega)) (λi p n r h1 d v _ y=>S g (by omega) i p n r h1 d v y) (W_hd h 2) i p n r h1 d v E y
   have q:=zKu (t:=.two 8 t u) (show(1:Int)≠0 by decide) z
   exact⟨zTW (t:=.two 8 t u) (show(1:Int)<2 by decide) ⟨.inl rfl,C,h⟩ q,z,q⟩
  .have q:OrH s (.two 9 t u):=by
    intro g D;have G:(RT.two 9 t u).nP 0=max (t.nP 0) (u.nP 1)+0:=rfl;rw[G]at D;have e:W 0 (RT.two 9 t u)=W 0 t++[32,124,32]++W 1 u:=rfl;intro i p n r h1 d v E y;rw[e]at d⊢;exact zMV (m:=0) (.inr rfl) (λr V e=>by cases e) (t3 g (by omega)) (λi p n r h1 d v E y=>zIG (.inl rfl) (Q g (by omega)) i p n r h1 d v trivial E y) (W_hd h 1) i p n r h1 d v E y
   have A:=zTW (t:=.two 9 t u) (show(0:Int)<2 by decide) ⟨.inr rfl,C,h⟩ q
   exact⟨A,zJo (t:=.two 9 t u) (show(0:Int)≠1 by decide) A,q⟩
theorem zJq{t:RT}(b:t.wf)(q:t.size<=64)(u:t.told.length<=1024)(v:t.nB<=32):zBE t.told=.ok t:=by
 have h:=(zJp t.told t b).2.2;have r:t.nP 0=t.nB:=by unfold RT.nP;rw[if_neg (by have:=(RT.vg t).1;omega)];rfl
 have a:sk t.told 0=0:=by
  obtain⟨c,w,e,hc⟩:=zIY b;exact zDd (s:=t.told) (p:=0) e hc
 obtain⟨j,e,k⟩:=zQn h (g:=32) (by omega) 0 0 0 [] a (by simp) (.inl rfl) (λd e=>by cases e) (λd e=>by cases e) (by omega)
 unfold zBE;rw[if_neg (by omega),e]
 show(if sk t.told j<t.told.length then _ else _)=_
 have:sk t.told j=t.told.length:=by
  rw[k.2,QS];exact zGj (zCX (QA _))
 rw[this,if_neg (Nat.lt_irrefl _),if_neg (by omega)]
theorem zVo{t u:RT}(b:t.wf/\t.size<=64/\t.told.length<=1024/\t.nB<=32)(a:u.wf/\u.size<=64/\u.told.length<=1024/\u.nB<=32)(h:t.told=u.told):t=u:=by
 have h1:=zJq b.1 b.2.1 b.2.2.1 b.2.2.2;have d:=zJq a.1 a.2.1 a.2.2.1 a.2.2.2;rw[h,d]at h1;exact(Except.ok.inj h1).symm
def zJS:RT:=.leaf 1 [] [] 0
def zRp:RT:=.not zJS
def RT.kn:RT->Int
 |.leaf ..=>0
 |.not _=>7
 |.two k _ _=>k
def zDM:RT->Bool
 |.leaf k _ _ _=>k==1
 |_=>false
def zEk:RT->Bool
 |.not t=>zDM t
 |_=>false
def w8:RT->RT
 |.not t=>t
 |t=>.not t
def zK(k:Int):RT->List RT
 |.two a t u=>if a=k then zK k t++zK k u else[.two a t u]
 |t=>[t]
def ltT(t u:RT):Bool:=slt t.told u.told
def dedG(p:RT):List RT->List RT
 |[]=>[]
 |y::r=>match seqb y.told p.told with
  |true=>dedG y r
  |false=>y::dedG y r
def dedT:List RT->List RT
 |[]=>[]
 |x::r=>x::dedG x r
def zAQ(k:Int):RT->Bool:=if k=9 then zEk else zDM
def zEx(k:Int):RT->Bool:=if k=9 then zDM else zEk
def zJr(k:Int):RT:=if k=9 then zRp else zJS
def zAu(k:Int)(t:RT)(l:List RT):RT:=l.foldl (.two k) t
def rowT(k:Int)(l:List RT):List RT:=dedT (isort ltT (l.filter λt=>!zAQ k t))
def zAp(k:Int)(l:List RT):RT:=match l.find? (zEx k)with
 |some t=>t
 |none=>match rowT k l with
  |[]=>zJr k
  |t::r=>zAu k t r
def nf:RT->RT
 |.leaf k a b n=>.leaf k a b n
 |.not t=>w8 (nf t)
 |.two k t u=>zAp k (zK k (nf t)++zK k (nf u))
theorem zE7{α:Type}{P:List α->Prop}(nil:P [])(cons:∀(l:List α)(a:α),P l->P (l++[a]))(l:List α):P l:=by
 have:∀l:List α,P l.reverse:=λl=>by
  induction l with
  |nil=>exact nil
  |cons a l b=>rw[List.reverse_cons];exact cons _ _ b
 rw[←List.reverse_reverse l];exact this _
theorem zQo{t u:RT}(h:ltT t u=true):ltT u t=false:=by
 cases h2:ltT u t with
 |false=>rfl
 |true=>have:=zGy _ _ _ h h2;rw[zLl]at this;cases this
theorem zYh{t u v:RT}(h:ltT u t=false)(k:ltT v u=false):ltT v t=false:=zR3.ntrans _ _ _ k h
theorem zSk{x:RT}:∀{l:List RT},l.Pairwise (λa b=>ltT b a=false)->(zFW ltT x l).Pairwise λa b=>ltT b a=false
 |[],_=>.cons (λy j=>by cases j) .nil
 |y::r,h=>by
  cases h with
  |cons h1 g=>
   unfold zFW;split
   .rename_i e;refine .cons (λz d=>?_) (.cons h1 g)
    rcases QG.1 d with rfl|d
    .exact zQo e
    .exact zYh (zQo e) (h1 z d)
   .rename_i e;refine .cons (λz d=>?_) (zSk g)
    rcases QG.1 (zID.mem_iff.1 d)with rfl|d
    .exact e
    .exact h1 z d
theorem zQp:∀{l:List RT},(isort ltT l).Pairwise λa b=>ltT b a=false
 |[]=>.nil
 |x::r=>zSk zQp
theorem zVp{p:RT}:∀{l:List RT}{y:RT},y∈dedG p l->y∈l:=by
 intro l
 induction l generalizing p with
 |nil=>intro y h;exact h
 |cons x r a=>
  intro y h;unfold dedG at h;split at h
  .exact .tail _ (a h)
  .rcases QG.1 h with rfl|h
   .exact .head _
   .exact .tail _ (a h)
theorem zVq{l:List RT}{y:RT}(h:y∈dedT l):y∈l:=by
 cases l with
 |nil=>exact h
 |cons x r=>
  rcases QG.1 h with rfl|h
  .exact .head _
  .exact .tail _ (zVp h)
theorem zYi{t u:RT}(h:ltT u t=false)(k:seqb u.told t.told=false):ltT t u=true:=by
 cases h2:ltT t u with
 |true=>rfl
 |false=>
  rw[zAG]at k;exact absurd (zPV h h2) (Qz k)
theorem zSl{p:RT}:∀{l:List RT},(p::l).Pairwise (λa b=>ltT b a=false)->(dedG p l).Pairwise (λa b=>ltT a b=true)/\∀y∈dedG p l,ltT p y=true:=by
 intro l
 induction l generalizing p with
 |nil=>intro _;exact⟨.nil,λy h=>by cases h⟩
 |cons x r q=>
  intro h;cases h with
  |cons h1 k=>
   obtain⟨i1,i2⟩:=q k;have j:=h1 x (.head _);unfold dedG;split
   .rename_i e;refine⟨i1,λy g=>?_⟩
    have:=i2 y g;rw[zAG]at e;unfold ltT at this⊢
    rwa [←Qc e]
   .rename_i e;have d:=zYi j e;refine⟨.cons i2 i1,λy g=>?_⟩
    rcases QG.1 g with rfl|g
    .exact d
    .exact zGy _ _ _ d (i2 y g)
theorem zWU{l:List RT}(h:l.Pairwise λa b=>ltT b a=false):(dedT l).Pairwise λa b=>ltT a b=true:=by
 cases l with
 |nil=>exact .nil
 |cons x r=>exact .cons (zSl h).2 (zSl h).1
theorem zWV(k:Int)(l:List RT):(rowT k l).Pairwise λa b=>ltT a b=true:=zWU zQp
theorem zF4{k:Int}{l:List RT}{y:RT}(h:y∈rowT k l):y∈l/\zAQ k y=false:=by
 have h:=zAs.mem_iff.1 (zVq h);have:=List.mem_filter.1 h;exact⟨this.1,by simpa using this.2⟩
theorem zS1{x:RT}{l:List RT}(h:∀y∈l,ltT x y=true):zFW ltT x l=x::l:=by
 cases l with
 |nil=>rfl
 |cons y r=>unfold zFW;rw[h y (.head _)]
theorem zQq:∀{l:List RT},l.Pairwise (λa b=>ltT a b=true)->isort ltT l=l
 |[],_=>rfl
 |x::r,h=>by
  cases h with
  |cons h1 d=>rw[isort,zQq d,zS1 h1]
theorem zWW{p:RT}:∀{l:List RT},(p::l).Pairwise (λa b=>ltT a b=true)->dedG p l=l:=by
 intro l
 induction l generalizing p with
 |nil=>intro _;rfl
 |cons x r g=>
  intro h;cases h with
  |cons h1 j=>
   have d:=h1 x (.head _);unfold dedG;have:seqb x.told p.told=false:=by
    rw[zAG];refine Qr λe=>?_
    unfold ltT at d;rw[e,zLl]at d;cases d
   rw[this,g j]
theorem zWX{k:Int}{l:List RT}(h:l.Pairwise λa b=>ltT a b=true)(e:∀y∈l,zAQ k y=false):rowT k l=l:=by
 unfold rowT;rw[List.filter_eq_self.2 λy d=>by rw[e y d];rfl,zQq h]
 cases l with
 |nil=>rfl
 |cons x r=>exact congrArg (x::·) (zWW h)
def Part(k:Int)(p:RT):Prop:=p.kn≠k/\zDM p=false/\zEk p=false
inductive NF:RT->Prop where
 |leaf (k:Int) (a b:JV) (n:Int):NF (.leaf k a b n)
 |not (t:RT):NF t->t.kn≠7->NF (.not t)
 |two (k:Int) (t:RT) (ts:List RT):(k=8\/k=9)->ts≠[]->(∀p∈t::ts,NF p)->(∀p∈t::ts,Part k p)->(t::ts).Pairwise (λa b=>ltT a b=true)->NF (zAu k t ts)
theorem Part.goes{k:Int}{p:RT}(h:Part k p):zAQ k p=false:=by
 unfold zAQ;split
 .exact h.2.2
 .exact h.2.1
theorem Part.uU{k:Int}{p:RT}(h:Part k p):zEx k p=false:=by
 unfold zEx;split
 .exact h.2.1
 .exact h.2.2
theorem Part.of{k:Int}{p:RT}(h:p.kn≠k)(h1:zAQ k p=false)(a:zEx k p=false):Part k p:=by
 unfold zAQ at h1;unfold zEx at a;by_cases e:k=9
 .rw[if_pos e]at h1 a;exact⟨h,a,h1⟩
 .rw[if_neg e]at h1 a;exact⟨h,h1,a⟩
theorem zCK(k:Int)(t p:RT)(ts:List RT):zAu k t (ts++[p])=.two k (zAu k t ts) p:=by
 unfold zAu;rw[List.foldl_append];rfl
theorem zGl{k:Int}{p:RT}(h:p.kn≠k):zK k p=[p]:=by
 cases p with
 |leaf=>rfl
 |not=>rfl
 |two a t u=>exact if_neg h
theorem zOK{k:Int}{t:RT}(h:t.kn≠k):∀(ts:List RT),(∀p∈ts,p.kn≠k)->zK k (zAu k t ts)=t::ts:=by
 intro ts
 induction ts using zE7 with
 |nil=>intro _;exact zGl h
 |cons ts p d=>
  intro a;rw[zCK,zK,if_pos rfl,d λq b=>a q (Qn _ b),zGl (a p (by simp))]
  rfl
theorem zSm{k:Int}{t:RT}{ts:List RT}(h:ts≠[]):(zAu k t ts).kn=k:=by
 induction ts using zE7 with
 |nil=>exact absurd rfl h
 |cons ts p a=>rw[zCK];rfl
theorem NF.flat{k:Int}{t:RT}(h:NF t)(hk:k=8\/k=9):∀p∈zK k t,NF p/\p.kn≠k:=by
 by_cases e:t.kn=k
 .cases h with
  |leaf q a b n=>
   exfalso
   have e:(0:Int)=k:=e;omega
  |not t h v=>
   exfalso
   have e:(7:Int)=k:=e;omega
  |two q t u h1 j r g w=>
   rw[zSm j]at e;subst e;rw[zOK (g t (.head _)).1 u λp d=>(g p (.tail _ d)).1]
   exact λp d=>⟨r p d,(g p d).1⟩
 .rw[zGl e];intro p d;rw[QY.1 d];exact⟨h,e⟩
theorem NF.none(k:Int):NF (zJr k):=by
 unfold zJr;split
 .exact .not _ (.leaf ..) (show(0:Int)≠7 by decide)
 .exact .leaf ..
theorem NF.join{k:Int}(hk:k=8\/k=9){l:List RT}(h:∀p∈l,NF p/\p.kn≠k):NF (zAp k l):=by
 unfold zAp;split
 .rename_i t e;exact(h t (List.mem_of_find?_eq_some e)).1
 .rename_i e;have d:∀p∈l,zEx k p=false:=λp b=>by simpa using List.find?_eq_none.1 e p b
  have a:∀p∈rowT k l,NF p/\Part k p:=λp b=>by
   obtain⟨h1,g⟩:=zF4 b;exact⟨(h p h1).1,.of (h p h1).2 g (d p h1)⟩
  have hs:=zWV k l;split
  .exact .none k
  .rename_i t r e;rw[e]at a hs;cases r with
   |nil=>exact(a t (.head _)).1
   |cons u r=>exact .two k t (u::r) hk (λh=>by cases h) (λp b=>(a p b).1) (λp b=>(a p b).2) hs
theorem NF.w8{t:RT}(h:NF t):NF (w8 t):=by
 cases h with
 |leaf k a b n=>exact .not _ (.leaf ..) (show(0:Int)≠7 by decide)
 |not t h _=>exact h
 |two k t d h1 e p g j=>
  have hk:=zSm (k:=k) (t:=t) e;have q:canon.w8 (zAu k t d)=.not (zAu k t d):=by
   cases hf:zAu k t d with
   |leaf=>rfl
   |not=>rw[hf]at hk;have hk:(7:Int)=k:=hk;omega
   |two=>rfl
  rw[q];exact .not _ (.two k t d h1 e p g j) (by rw[hk];omega)
theorem zLt:∀{t:RT},t.wf->NF (nf t)
 |.leaf k a b n,_=>.leaf ..
 |.not t,h=>(zLt (t:=t) h).w8
 |.two k t u,h=>by
  refine .join h.1 λp d=>?_
  rcases QH.1 d with d|d
  .exact(zLt h.2.1).flat h.1 p d
  .exact(zLt h.2.2).flat h.1 p d
theorem zWY{k:Int}{t:RT}{ts:List RT}(e:∀p∈t::ts,Part k p)(g:(t::ts).Pairwise (λa b=>ltT a b=true)):zAp k (t::ts)=zAu k t ts:=by
 unfold zAp;rw[List.find?_eq_none.2 λp d=>by rw[(e p d).uU];decide,zWX g λp d=>(e p d).goes]
theorem NF.idem{t:RT}(h:NF t):nf t=t:=by
 induction h with
 |leaf=>rfl
 |not t h hk j=>
  show canon.w8 (nf t)=_
  rw[j];cases t with
  |leaf=>rfl
  |not=>exact absurd rfl hk
  |two=>rfl
 |two k t y h1 z w u v j=>
  have e:∀l:List RT,(∀p∈t::l,NF p/\nf p=p)->(∀p∈t::l,Part k p)->(t::l).Pairwise (λa b=>ltT a b=true)->nf (zAu k t l)=zAu k t l:=by
   intro l
   induction l using zE7 with
   |nil=>intro h _ _;exact(h t (.head _)).2
   |cons l p r=>
    intro g1 g2 g3;have sub:∀q,q∈t::l->q∈t::(l++[p]):=λq d=>by
     rcases QG.1 d with rfl|d
     .exact .head _
     .exact .tail _ (Qn _ d)
    have g:p∈t::(l++[p]):=.tail _ (Qk _ (.head _));rw[zCK];show zAp k (zK k (nf (zAu k t l))++zK k (nf p))=_
    rw[r (λq d=>g1 q (sub q d)) (λq d=>g2 q (sub q d)) (g3.sublist (by rw[←List.cons_append];exact List.sublist_append_left _ _)),(g1 p g).2,zGl (g2 p g).1,
     zOK (g2 t (.head _)).1 l λq d=>(g2 q (sub q (.tail _ d))).1,List.cons_append,zWY g2 g3,zCK]
  exact e y (λp g=>⟨w p g,j p g⟩) u v
theorem zWZ{t:RT}(h:t.wf):nf (nf t)=nf t:=(zLt h).idem
def sm(f:RT->Nat):List RT->Nat
 |[]=>0
 |p::r=>f p+sm f r
theorem zHt(f:RT->Nat):∀a b:List RT,sm f (a++b)=sm f a+sm f b
 |[],b=>(QS _).symm
 |p::r,b=>by rw[List.cons_append,sm,sm,zHt f r b,Nat.add_assoc]
theorem zW0(f:RT->Nat){a b:List RT}(h:a.Perm b):sm f a=sm f b:=by
 induction h with
 |nil=>rfl
 |cons x _ d=>rw[sm,sm,d]
 |swap x y l=>simp only[sm];omega
 |trans _ _ h1 e=>rw[h1,e]
theorem zTX(f:RT->Nat){a b:List RT}(h:a.Sublist b):sm f a<=sm f b:=by
 induction h with
 |slnil=>exact QA _
 |cons x _ d=>rw[sm];omega
 |cons_cons x _ d=>rw[sm,sm];omega
theorem zKv(f:RT->Nat){p:RT}:∀{l:List RT},p∈l->f p<=sm f l
 |x::r,h=>by
  rw[sm];rcases QG.1 h with rfl|h
  .omega
  .have:=zKv f h;omega
theorem zVr{p:RT}:∀{l:List RT},(dedG p l).Sublist l:=by
 intro l
 induction l generalizing p with
 |nil=>exact .slnil
 |cons y r a=>
  unfold dedG;split
  .exact .cons _ a
  .exact .cons_cons _ a
theorem zQr:∀{l:List RT},(dedT l).Sublist l
 |[]=>.slnil
 |x::r=>.cons_cons _ zVr
theorem zTY(f:RT->Nat)(k:Int)(l:List RT):sm f (rowT k l)<=sm f l:=by
 have h1:=zTX f (zQr (l:=isort ltT (l.filter λt=>!zAQ k t)))
 rw[zW0 f zAs]at h1;exact QI h1 (zTX f List.filter_sublist)
def lvK(k:Int):Int:=if k=9 then 0 else 1
def pl(m:Int)(t:RT):Nat:=(W m t).length
theorem zDy(m:Int)(t:RT):pl m t=t.told.length+if t.tg<m then 2 else 0:=by
 unfold pl W parT;split
 .simp
 .rfl
theorem zLu{m m':Int}(h:m<=m')(t:RT):pl m t<=pl m' t:=by rw[zDy,zDy];split<;>split<;>omega
theorem zZH(m m':Int)(t:RT):pl m t<=pl m' t+2:=by rw[zDy,zDy];split<;>split<;>omega
theorem zPz{k:Int}(hk:k=8\/k=9)(t u:RT):(RT.two k t u).tg=lvK k:=by rcases hk with rfl|rfl<;>rfl
theorem zZI{k:Int}(hk:k=8\/k=9){t:RT}(h:t.kn≠k):t.tg≠lvK k:=by
 cases t with
 |leaf d a b n=>
  show(2:Int)≠lvK k
  rcases hk with rfl|rfl<;>decide
 |not t=>
  show(2:Int)≠lvK k
  rcases hk with rfl|rfl<;>decide
 |two d t u=>
  have h:d≠k:=h;show(if d=9 then(0:Int)else if d=8 then 1 else 2)≠lvK k
  rcases hk with rfl|rfl
  .rw[if_neg h];unfold lvK;split<;>decide
  .unfold lvK;rw[if_neg h];split<;>decide
theorem zJs{k:Int}(hk:k=8\/k=9)(t u:RT):(RT.two k t u).told.length=pl (lvK k) t+3+pl (lvK k+1) u:=by
 rcases hk with rfl|rfl
 .show(W 1 t++[32,38,32]++W 2 u).length=(W 1 t).length+3+(W 2 u).length
  simp;omega
 .show(W 0 t++[32,124,32]++W 1 u).length=(W 0 t).length+3+(W 1 u).length
  simp;omega
theorem zQs{k:Int}(hk:k=8\/k=9)(t u:RT):(RT.two k t u).nB=max (t.nP (lvK k)) (u.nP (lvK k+1)):=by
 rcases hk with rfl|rfl<;>rfl
theorem zTZ{k:Int}(hk:k=8\/k=9)(t u:RT):pl (lvK k) (.two k t u)=pl (lvK k) t+3+pl (lvK k+1) u:=by
 rw[zDy,zPz hk,if_neg (Int.lt_irrefl _),zJs hk];rfl
theorem zT0{k:Int}(hk:k=8\/k=9)(t u:RT):(RT.two k t u).nP (lvK k)=max (t.nP (lvK k)) (u.nP (lvK k+1)):=by
 unfold RT.nP;rw[zPz hk,if_neg (Int.lt_irrefl _),zQs hk];rfl
theorem zVs{k:Int}(hk:k=8\/k=9){t:RT}(h:t.kn≠k):pl (lvK k+1) t=pl (lvK k) t/\t.nP (lvK k+1)=t.nP (lvK k):=by
 have h1:=zZI hk h;unfold RT.nP;rw[zDy,zDy];by_cases a:t.tg<lvK k
 .rw[if_pos a,if_pos (by omega)];exact⟨rfl,by rw[if_pos (by omega),if_pos a]⟩
 .rw[if_neg a,if_neg (by omega)];exact⟨rfl,by rw[if_neg (by omega),if_neg a]⟩
def w3(k:Int)(p:RT):Nat:=pl (lvK k) p+3
def w1(p:RT):Nat:=p.size+1
theorem zYj{k:Int}(hk:k=8\/k=9){t:RT}:∀ts:List RT,(∀p∈ts,p.kn≠k)->w3 k (zAu k t ts)=sm (w3 k) (t::ts)/\w1 (zAu k t ts)=sm w1 (t::ts)/\∀B,(∀p∈t::ts,p.nP (lvK k)<=B)->(zAu k t ts).nP (lvK k)<=B:=by
 intro ts
 induction ts using zE7 with
 |nil=>intro _;exact⟨rfl,rfl,λB h=>h t (.head _)⟩
 |cons ts p d=>
  intro b;obtain⟨i1,i2,i3⟩:=d λq a=>b q (Qn _ a)
  have h1:=zVs hk (b p (Qk _ (.head _)));rw[zCK,←List.cons_append,zHt,zHt,←i1,←i2];refine⟨?_,?_,λB h=>?_⟩
  .unfold w3;rw[zTZ hk,h1.1];show _=_+(w3 k p+0)
   unfold w3;omega
  .show _=_+(w1 p+0)
   unfold w1;show(zAu k t ts).size+p.size+1+1=_
   omega
  .rw[zT0 hk,h1.2];exact Nat.max_le.2 ⟨i3 B λq a=>h q (Qn _ a),h p (Qk _ (.head _))⟩
theorem zMW{k:Int}(hk:k=8\/k=9):∀a:RT,sm (w3 k) (zK k a)<=w3 k a/\sm w1 (zK k a)=w1 a/\∀p∈zK k a,p.nP (lvK k)<=a.nP (lvK k)
 |.leaf ..=>⟨QA _,rfl,λp b=>by rw[QY.1 b];exact QA _⟩
 |.not t=>⟨QA _,rfl,λp b=>by rw[QY.1 b];exact QA _⟩
 |.two d t u=>by
  by_cases e:d=k
  .subst e;obtain⟨t1,t2,t3⟩:=zMW hk t;obtain⟨j,h,g⟩:=zMW hk u;rw[zK,if_pos rfl,zHt,zHt];refine⟨?_,?_,λp b=>?_⟩
   .unfold w3 at t1 j⊢;rw[zTZ hk];have:=zLu (m:=lvK d) (m':=lvK d+1) (by omega) u
    omega
   .rw[t2,h];unfold w1;show _=t.size+u.size+1+1
    omega
   .rw[zT0 hk];have:=RT.wK (m:=lvK d) (m':=lvK d+1) (by omega) u
    rcases QH.1 b with b|b
    .exact QI (t3 p b) (Nat.le_max_left _ _)
    .exact QI (QI (g p b) this) (Nat.le_max_right _ _)
  .rw[zK,if_neg e];exact⟨QA _,rfl,λp b=>by rw[QY.1 b];exact QA _⟩
theorem zYk{k:Int}(hk:k=8\/k=9){l:List RT}{T Z B:Nat}(A:l≠[])(D:∀p∈l,p.kn≠k)(h1:sm (w3 k) l<=T+3)(z:sm w1 l<=Z+1)(h:∀p∈l,p.nP (lvK k)<=B)(u:4<=T)(v:2<=Z):
  pl (lvK k) (zAp k l)<=T/\(zAp k l).size<=Z/\(zAp k l).nP (lvK k)<=B:=by
 have mem:∀p∈l,pl (lvK k) p<=T/\p.size<=Z/\p.nP (lvK k)<=B:=λp a=>by
  have F:=zKv (w3 k) a;have E:=zKv w1 a;unfold w3 w1 at *;exact⟨by omega,by omega,h p a⟩
 unfold zAp;split
 .rename_i t e;exact mem t (List.mem_of_find?_eq_some e)
 .rename_i e;have d:=zTY (w3 k) k l;have b:=zTY w1 k l;have j:∀p∈rowT k l,p∈l:=λp a=>(zF4 a).1
  split
  .rename_i er;rcases hk with rfl|rfl
   .exact⟨QI (by decide:(3:Nat)<=4) u,QI (by decide:(1:Nat)<=2) v,QV _⟩
   .refine⟨u,v,?_⟩
    obtain⟨p,r,rfl⟩:=List.exists_cons_of_ne_nil A;have g:zAQ 9 p=true:=by
     cases hc:zAQ 9 p with
     |true=>rfl
     |false=>
      exfalso
      have:p∈(p::r).filter λt=>!zAQ 9 t:=List.mem_filter.2 ⟨.head _,by rw[hc];rfl⟩
      have w:=zAs.mem_iff (l₁:=isort ltT ((p::r).filter λt=>!zAQ 9 t)) |>.2 this
      unfold rowT at er;cases hs:isort ltT ((p::r).filter λt=>!zAQ 9 t)with
      |nil=>rw[hs]at w;cases w
      |cons x y=>rw[hs]at er;cases er
    have C:=h p (.head _);have:1<=p.nB:=by
     have g:zEk p=true:=g;cases p with
     |leaf=>cases g
     |not q=>show 1<=1+_;omega
     |two=>cases g
    have:=RT.wS (lvK 9) p;exact QI (by omega:1<=p.nP (lvK 9)) C
  .rename_i t r er;rw[er]at d b j;obtain⟨f1,f2,f3⟩:=zYj hk (t:=t) r λp a=>D p (j p (.tail _ a))
   rw[←f1]at d;rw[←f2]at b;unfold w3 at d h1;unfold w1 at b z;exact⟨by omega,by omega,f3 B λp a=>h p (j p a)⟩
def MM(t a:RT):Prop:=a.size<=t.size/\∀m:Int,m<=2->pl m a<=pl m t/\a.nP m<=t.nP m
theorem zHi{k:Int}:∀{a:RT},a.wf->∀p∈zK k a,p.wf
 |.leaf ..,h,p,b=>by rw[QY.1 b];exact h
 |.not t,h,p,b=>by rw[QY.1 b];exact h
 |.two d t u,h,p,b=>by
  rw[zK]at b;split at b
  .rcases QH.1 b with b|b
   .exact zHi h.2.1 p b
   .exact zHi h.2.2 p b
  .rw[QY.1 b];exact h
theorem zQt:zJS.wf:=.inl ⟨rfl,rfl,rfl,rfl⟩
theorem zW1(k:Int):(zJr k).wf:=by
 unfold zJr;split
 .exact zQt
 .exact zQt
theorem zW2{k:Int}(hk:k=8\/k=9){t:RT}(e:t.wf):∀ts:List RT,(∀p∈ts,p.wf)->(zAu k t ts).wf:=by
 intro ts
 induction ts using zE7 with
 |nil=>intro _;exact e
 |cons ts p d=>
  intro a;rw[zCK];exact⟨hk,d λq b=>a q (Qn _ b),a p (Qk _ (.head _))⟩
theorem zW3{k:Int}(hk:k=8\/k=9){l:List RT}(h:∀p∈l,p.wf):(zAp k l).wf:=by
 unfold zAp;split
 .rename_i t e;exact h t (List.mem_of_find?_eq_some e)
 .have b:∀p∈rowT k l,p.wf:=λp a=>h p (zF4 a).1
  split
  .exact zW1 k
  .rename_i t r er;rw[er]at b;exact zW2 hk (b t (.head _)) r λp a=>b p (.tail _ a)
theorem zJt:∀{t:RT},t.wf->(nf t).wf
 |.leaf ..,h=>h
 |.not t,h=>by
  have:=zJt (t:=t) h;show(w8 (nf t)).wf
  cases hn:nf t with
  |leaf=>rw[hn]at this;exact this
  |not=>rw[hn]at this;exact this
  |two=>rw[hn]at this;exact this
 |.two k t u,h=>zW3 h.1 λp a=>by
  rcases QH.1 a with a|a
  .exact zHi (zJt h.2.1) p a
  .exact zHi (zJt h.2.2) p a
theorem zVt{t:RT}(h:t.wf):1<=t.told.length:=by
 obtain⟨c,w,e,_⟩:=zIY h;rw[e];exact Nat.succ_le_succ (QV _)
theorem zN7(k:Int):∀a:RT,zK k a≠[]
 |.leaf ..=>λh=>by cases h
 |.not t=>λh=>by cases h
 |.two b t u=>λh=>by
  rw[zK]at h;split at h
  .exact zN7 k t (List.append_eq_nil_iff.1 h).1
  .cases h
def zBF(k:Int)(t u:RT):List RT:=zK k (nf t)++zK k (nf u)
theorem zSn{k:Int}(hk:k=8\/k=9){t u:RT}(d:MM t (nf t))(e:MM u (nf u)):sm (w3 k) (zBF k t u)<=(RT.two k t u).told.length+3/\sm w1 (zBF k t u)<=(RT.two k t u).size+1/\∀p∈zBF k t u,p.nP (lvK k)<=(RT.two k t u).nB:=by
 obtain⟨t1,t2,t3⟩:=zMW hk (nf t);obtain⟨j,g,h⟩:=zMW hk (nf u);have b:lvK k+1<=2:=by rcases hk with rfl|rfl<;>decide
 have g1:=d.2 (lvK k) (by omega)
 have g2:=e.2 (lvK k+1) b;have g3:=zLu (m:=lvK k) (m':=lvK k+1) (by omega) (nf u)
 have g4:=RT.wK (m:=lvK k) (m':=lvK k+1) (by omega) (nf u)
 unfold zBF;rw[zHt,zHt,zJs hk];refine⟨?_,?_,λp a=>?_⟩
 .unfold w3 at t1 j⊢;omega
 .rw[t2,g];have:=d.1;have:=e.1;unfold w1;show _<=t.size+u.size+1+1
  omega
 .rw[zQs hk];rcases QH.1 a with a|a
  .exact QI (QI (t3 p a) g1.2) (Nat.le_max_left _ _)
  .exact QI (QI (h p a) (QI g4 g2.2)) (Nat.le_max_right _ _)
theorem zQu{k:Int}(hk:k=8\/k=9){t u:RT}(d:t.wf)(b:u.wf):∀p∈zBF k t u,NF p/\p.kn≠k:=λp a=>by
 rcases QH.1 a with a|a
 .exact(zLt d).flat hk p a
 .exact(zLt b).flat hk p a
theorem zGZ:∀{t:RT},t.wf->MM t (nf t)
 |.leaf ..,_=>⟨QA _,λm _=>⟨QA _,QA _⟩⟩
 |.not t,h=>by
  have D:=zGZ (t:=t) h;obtain⟨i1,i2⟩:=D;have i2:=i2 2 (Int.le_refl _);have a:∀(m:Int),m<=2->∀t:RT,pl m (.not t)=1+pl 2 t/\(RT.not t).nP m=1+t.nP 2:=λm b t=>by
   have e:(RT.not t).tg=2:=rfl;unfold RT.nP;rw[zDy,e,if_neg (by omega)]
   refine⟨?_,by rw[if_neg (by omega)];rfl⟩
   show(33::W 2 t).length+0=_
   unfold pl;rw[QZ];omega
  show MM (.not t) (w8 (nf t))
  have key:∀x:RT,nf t=x->(∀y,x≠.not y)->MM (.not t) (.not x):=λx B _=>by
   rw[B]at i1 i2;refine⟨Nat.succ_le_succ i1,λm b=>?_⟩
   rw[(a m b _).1,(a m b _).1,(a m b _).2,(a m b _).2];omega
  cases hn:nf t with
  |leaf=>exact key _ hn λy e=>by cases e
  |two=>exact key _ hn λy e=>by cases e
  |not y=>
   rw[hn]at i1 i2;have i1:y.size+1<=t.size:=i1;refine⟨by show y.size<=t.size+1;omega,λm b=>?_⟩
   show pl m y<=_/\y.nP m<=_
   rw[(a m b t).1,(a m b t).2];rw[(a 2 (Int.le_refl _) y).1,(a 2 (Int.le_refl _) y).2]at i2;have:=zLu b y;have:=RT.wK b y;omega
 |.two k t u,h=>by
  obtain⟨hk,h1,d⟩:=h;obtain⟨z,j,g⟩:=zSn hk (zGZ h1) (zGZ d);have q:4<=(RT.two k t u).told.length:=by
   rw[zJs hk,zDy];have:=zVt h1;omega
  have A:2<=(RT.two k t u).size:=by
   show 2<=t.size+u.size+1
   have:=t.size_pos;omega
  obtain⟨E,r,F⟩:=zYk hk (l:=zBF k t u) (λe=>zN7 k _ (List.append_eq_nil_iff.1 e).1) (λp w=>(zQu hk h1 d p w).2) z j g q A
  refine⟨r,λm b=>?_⟩
  show pl m (zAp k (zBF k t u))<=_/\(zAp k (zBF k t u)).nP m<=_
  have C:pl m (RT.two k t u)=(RT.two k t u).told.length+if lvK k<m then 2 else 0:=by rw[zDy,zPz hk]
  have v:(RT.two k t u).nP m=(RT.two k t u).nB+if lvK k<m then 1 else 0:=by unfold RT.nP;rw[zPz hk]
  rw[C,v];by_cases hc:lvK k<m
  .rw[if_pos hc,if_pos hc];have:=zZH m (lvK k) (zAp k (zBF k t u));have:=RT.um m (zAp k (zBF k t u));have:=RT.wS (lvK k) (zAp k (zBF k t u));omega
  .rw[if_neg hc,if_neg hc];have:=zLu (m:=m) (m':=lvK k) (by omega) (zAp k (zBF k t u))
   have:=RT.wK (m:=m) (m':=lvK k) (by omega) (zAp k (zBF k t u))
   omega
def Gd(t:RT):Prop:=t.wf/\t.size<=64/\t.told.length<=1024/\t.nB<=32
theorem zQv{s:JV}{t:RT}(h:zBE s=.ok t):Gd t:=⟨(zIe h).1,(zIe h).2.1,(zIe h).2.2,zTU h⟩
theorem Gd.inj{t u:RT}(b:Gd t)(a:Gd u)(h:t.told=u.told):t=u:=zVo b a h
theorem Gd.parse{t:RT}(h:Gd t):zBE t.told=.ok t:=zJq h.1 h.2.1 h.2.2.1 h.2.2.2
theorem pl0(t:RT):pl 0 t=t.told.length/\t.nP 0=t.nB:=by
 have:=(RT.vg t).1;unfold RT.nP;rw[zDy,if_neg (by omega),if_neg (by omega)]
 exact⟨rfl,rfl⟩
theorem Gd.nf{t:RT}(h:Gd t):Gd (nf t):=by
 obtain⟨h1,a⟩:=zGZ h.1;have:=a 0 (by decide)
 rw[(pl0 _).1,(pl0 _).1,(pl0 _).2,(pl0 _).2]at this;exact⟨zJt h.1,QI h1 h.2.1,QI this.1 h.2.2.1,QI this.2 h.2.2.2⟩
theorem Gd.two{k:Int}{t u:RT}(h:Gd (.two k t u)):(k=8\/k=9)/\Gd t/\Gd u:=by
 obtain⟨⟨hk,h1,b⟩,a,d,e⟩:=h;have a:t.size+u.size+1<=64:=a;rw[zJs hk,zDy,zDy]at d;rw[zQs hk]at e;have:=RT.wS (lvK k) t;have:=RT.wS (lvK k+1) u;exact⟨hk,⟨h1,by omega,by omega,by omega⟩,b,by omega,by omega,by omega⟩
theorem Gd.not{t:RT}(h:Gd (.not t)):Gd t:=by
 obtain⟨h1,d,a,b⟩:=h;have d:t.size+1<=64:=d;have a:(33::W 2 t).length<=1024:=a;have b:1+t.nP 2<=32:=b;have e:(W 2 t).length=t.told.length+_:=zDy 2 t;rw[QZ,e]at a;have:=RT.wS 2 t;exact⟨h1,by omega,by omega,by omega⟩
theorem Gd.parts{k:Int}{t u:RT}(h:Gd (.two k t u)):∀p∈zBF k t u,Gd p:=λp a=>by
 have hk:=h.two.1;obtain⟨⟨_,h1,b⟩,y,v,w⟩:=h;obtain⟨r,g,e⟩:=zSn hk (zGZ h1) (zGZ b);have d:=zKv (w3 k) a;have j:=zKv w1 a;have z:=e p a;have q:p.wf:=by
  rcases QH.1 a with a|a
  .exact zHi (zJt h1) p a
  .exact zHi (zJt b) p a
 unfold w3 at d r;unfold w1 at j g;rw[zDy]at d;have:=RT.wS (lvK k) p;exact⟨q,by omega,by omega,by omega⟩
theorem zVu{p:RT}:∀{r:List RT}{y:RT},y∈r->∃z∈p::dedG p r,z.told=y.told:=by
 intro r
 induction r generalizing p with
 |nil=>intro y h;cases h
 |cons x r d=>
  intro y h;unfold dedG;split
  .rename_i e;rw[zAG]at e;have e:=Qc e;rcases QG.1 h with rfl|h
   .exact⟨p,.head _,e.symm⟩
   .obtain⟨z,a,b⟩:=d (p:=x) h;rcases QG.1 a with rfl|a
    .exact⟨p,.head _,e.symm.trans b⟩
    .exact⟨z,.tail _ a,b⟩
  .rcases QG.1 h with rfl|h
   .exact⟨y,.tail _ (.head _),rfl⟩
   .obtain⟨z,a,b⟩:=d (p:=x) h;exact⟨z,.tail _ a,b⟩
theorem zVv{l:List RT}{y:RT}(h:y∈l):∃z∈dedT l,z.told=y.told:=by
 cases l with
 |nil=>cases h
 |cons x r=>
  rcases QG.1 h with rfl|h
  .exact⟨y,.head _,rfl⟩
  .exact zVu h
theorem zQw{k:Int}{l:List RT}(a:∀p∈l,Gd p){y:RT}(h:y∈l)(e:zAQ k y=false):y∈rowT k l:=by
 have h1:y∈isort ltT (l.filter λt=>!zAQ k t):=zAs.mem_iff.2 (List.mem_filter.2 ⟨h,by rw[e];rfl⟩)
 obtain⟨z,b,d⟩:=zVv h1;have:z=y:=(a z (zF4 b).1).inj (a y h) d;exact this▸b
section
variable(at':List Pr)
theorem zGB:zt at' zJS=true:=by
 show zMS at' 1 [] [] 0=true
 unfold zMS;split
 .rfl
 .rfl
theorem zJu{p:RT}(d:p.wf)(h:zDM p=true):p=zJS:=by
 cases p with
 |leaf k a b n=>
  have h:k=1:=by simpa[zDM]using h
  subst h;rcases d with⟨_,rfl,rfl,rfl⟩|⟨_,_,⟨h|h,_⟩|⟨h|h,_⟩|⟨h,_⟩⟩
  .rfl
  all_goals exact absurd h (by decide)
 |not=>cases h
 |two=>cases h
theorem zQx{p:RT}(a:p.wf)(h:zEk p=true):p=zRp:=by
 cases p with
 |leaf=>cases h
 |not t=>rw[zJu (p:=t) a h];rfl
 |two=>cases h
theorem zIj:zt at' zRp=false:=by
 show(!zt at' zJS)=false
 rw[zGB];rfl
theorem zRD{t:RT}:∀ts:List RT,zt at' (zAu 8 t ts)=(t::ts).all (zt at'):=by
 intro ts
 induction ts using zE7 with
 |nil=>simp[zAu]
 |cons ts p a=>
  rw[zCK];show(zt at' (zAu 8 t ts)&&zt at' p)=_
  rw[a,←List.cons_append,List.all_append];simp
theorem zRE{t:RT}:∀ts:List RT,zt at' (zAu 9 t ts)=(t::ts).any (zt at'):=by
 intro ts
 induction ts using zE7 with
 |nil=>simp[zAu]
 |cons ts p a=>
  rw[zCK];show(zt at' (zAu 9 t ts)||zt at' p)=_
  rw[a,←List.cons_append,List.any_append];simp
theorem zGm:∀a:RT,(zK 8 a).all (zt at')=zt at' a
 |.leaf ..=>by simp[zK]
 |.not t=>by simp[zK]
 |.two k t u=>by
  rw[zK];split
  .rename_i e;subst e;rw[List.all_append,zGm t,zGm u];rfl
  .simp
theorem zGn:∀a:RT,(zK 9 a).any (zt at')=zt at' a
 |.leaf ..=>by simp[zK]
 |.not t=>by simp[zK]
 |.two k t u=>by
  rw[zK];split
  .rename_i e;subst e;rw[List.any_append,zGn t,zGn u];rfl
  .simp
theorem zRF{l:List RT}(b:∀p∈l,Gd p):zt at' (zAp 8 l)=l.all (zt at'):=by
 unfold zAp;split
 .rename_i t e;have d:=List.mem_of_find?_eq_some e;have g:t=zRp:=zQx (b t d).1 (List.find?_some (p:=zEx 8) e);rw[g,zIj];refine(Bool.eq_false_iff.2 λh=>?_).symm
  have:=QD.1 h t d;rw[g,zIj]at this;cases this
 .have key:(rowT 8 l).all (zt at')=l.all (zt at'):=by
   rw[Bool.eq_iff_iff,QD,QD];refine⟨λh p a=>?_,λh p a=>h p (zF4 a).1⟩
   cases hc:zAQ 8 p with
   |true=>rw[zJu (b p a).1 hc,zGB]
   |false=>exact h p (zQw b a hc)
  rw[←key];split
  .rename_i er;rw[er];exact zGB at'
  .rename_i t r er;rw[er];exact zRD at' r
theorem zRG{l:List RT}(b:∀p∈l,Gd p):zt at' (zAp 9 l)=l.any (zt at'):=by
 unfold zAp;split
 .rename_i t e;have d:=List.mem_of_find?_eq_some e;have g:t=zJS:=zJu (b t d).1 (List.find?_some (p:=zEx 9) e);rw[g,zGB];refine(List.any_eq_true.2 ⟨t,d,?_⟩).symm
  rw[g,zGB]
 .have key:(rowT 9 l).any (zt at')=l.any (zt at'):=by
   rw[Bool.eq_iff_iff,List.any_eq_true,List.any_eq_true];refine⟨λ⟨p,a,h⟩=>⟨p,(zF4 a).1,h⟩,λ⟨p,a,h⟩=>?_⟩
   cases hc:zAQ 9 p with
   |true=>
    rw[zQx (b p a).1 hc,zIj]at h;cases h
   |false=>exact⟨p,zQw b a hc,h⟩
  rw[←key];split
  .rename_i er;rw[er];exact zIj at'
  .rename_i t r er;rw[er];exact zRE at' r
theorem zJv:∀{t:RT},Gd t->zt at' (nf t)=zt at' t
 |.leaf ..,_=>rfl
 |.not t,h=>by
  have b:=zJv (t:=t) h.not;show zt at' (w8 (nf t))=!zt at' t
  rw[←b];cases nf t with
  |leaf=>rfl
  |not x=>show _=(!(!zt at' x));rw[Bool.not_not];rfl
  |two=>rfl
 |.two k t u,h=>by
  obtain⟨hk,e,d⟩:=h.two;have i1:=zJv e;have i2:=zJv d;have a:=h.parts;show zt at' (zAp k (zBF k t u))=_
  rcases hk with rfl|rfl
  .rw[zRF at' a];unfold zBF;rw[List.all_append,zGm,zGm,i1,i2];rfl
  .rw[zRG at' a];unfold zBF;rw[List.any_append,zGn,zGn,i1,i2];rfl
end
abbrev nv(k:Int)(a b:JV)(n l r:Int)(d:JE):AV:=.qc (.agg [.int .i64 k,.str a,.str b,.int .i64 n,.int .i64 l,.int .i64 r,.qo 1 d]) 0
abbrev m1:Int:=Int.negSucc 0
abbrev z0:Int:=ofNat 0
def Enc:RT->AV->Prop
 |.leaf k a b n,v=>v=nv k a b n m1 m1 []\/k=1/\v=nv k a b n z0 z0 []
 |.not t,v=>∃l r w,v=nv 7 [] [] z0 l r [w]/\Enc t w
 |.two k t u,v=>∃l r w x,v=nv k [] [] z0 l r [w,x]/\Enc t w/\Enc u x
def zi:RT->AV
 |.leaf k a b n=>nv k a b n m1 m1 []
 |.not t=>nv 7 [] [] z0 z0 z0 [zi t]
 |.two k t u=>nv k [] [] z0 z0 z0 [zi t,zi u]
def any0:AV:=nv 1 [] [] z0 z0 z0 []
def EN(t:RT)(v:AV):Prop:=v=zi t\/t=zJS/\v=any0\/t=zRp/\v=nv 7 [] [] z0 z0 z0 [any0]
theorem Enc.nv:∀{t:RT}{v:AV},Enc t v->∃k a b n l r d,v=canon.nv k a b n l r d
 |.leaf k a b n,v,h=>by
  rcases h with rfl|⟨_,rfl⟩<;>exact⟨_,_,_,_,_,_,_,rfl⟩
 |.not t,v,⟨l,r,w,e,_⟩=>⟨_,_,_,_,_,_,_,e⟩
 |.two k t u,v,⟨l,r,w,x,e,_⟩=>⟨_,_,_,_,_,_,_,e⟩
theorem zAR:∀t:RT,Enc t (zi t)
 |.leaf k a b n=>.inl rfl
 |.not t=>⟨_,_,_,rfl,zAR t⟩
 |.two k t u=>⟨_,_,_,_,rfl,zAR t,zAR u⟩
theorem EN.enc{t:RT}{v:AV}(h:EN t v):Enc t v:=by
 rcases h with rfl|⟨rfl,rfl⟩|⟨rfl,rfl⟩
 .exact zAR t
 .exact .inr ⟨rfl,rfl⟩
 .exact⟨_,_,_,rfl,.inr ⟨rfl,rfl⟩⟩
theorem EN.part{k:Int}{t:RT}{v:AV}(h:EN t v)(a:Part k t):v=zi t:=by
 rcases h with h|⟨rfl,_⟩|⟨rfl,_⟩
 .exact h
 .exact absurd a.2.1 (by decide)
 .exact absurd a.2.2 (by decide)
section
variable{β:Type}{P:β->Prop}{wk:Bool}{f:Int->JV->JV->Int->Int->Int->JE->Option β}
theorem zA6{o:JF}{k:Int}{a b:JV}{n l r:Int}{d:JE}(h:o=some (nv k a b n l r d))(q:Wp (f k a b n l r d) P):Wp (dK wk yi o f) P:=zNZ h q
def Grown(t:RT)(v:AV):Prop:=∃k a b n l r d,Enc t (nv k a b n l r d)/\(v=nv k a b n l r d\/d=[]/\v=.qc (.agg [.int .i64 k,.str a,.str b,.int .i64 n,.int .i64 l,.int .i64 r,.qa]) 0)
theorem Grown.read{t:RT}{o:JF}(h:Wp o (Grown t))(q:∀k a b n l r d,Enc t (nv k a b n l r d)->Wp (f k a b n l r d) P):Wp (dK true yi o f) P:=by
 obtain⟨v,rfl,k,a,b,n,l,r,d,e,rfl|⟨rfl,rfl⟩⟩:=h
 .exact zA6 rfl (q _ _ _ _ _ _ _ e)
 .exact q _ _ _ _ _ _ _ e
end
theorem zYl{es:JE}:∀(t:RT)(o d:Nat),t.size<=d->t.size<=1000->Seg es t o->Wp (zDi d es (ofNat (o+t.size-1))) (Grown t):=by
 intro t
 induction t with
 |leaf k a b n=>
  intro o d z A hs;have g:(RT.leaf k a b n).size=1:=rfl;obtain⟨d,rfl⟩:∃e,d=e+1:=⟨d-1,by omega⟩
  rw[g,show o+1-1=o by omega,zFE]
  refine zB5 hs.leaf (zB5 hs.leaf (zB5 hs.leaf (Wf rfl (Wf rfl (Wb ?_)))))
  exact⟨_,_,_,_,_,_,_,.inl rfl,.inr ⟨rfl,rfl⟩⟩
 |not t E=>
  intro o d z A hs;have g:(RT.not t).size=t.size+1:=rfl;obtain⟨d,rfl⟩:∃e,d=e+1:=⟨d-1,by omega⟩
  obtain⟨h1,j⟩:=hs.not;rw[g,show o+(t.size+1)-1=o+t.size by omega,zFE]
  refine zB5 j (zB5 j (zB5 j (Wc (λ_=>?_) λh=>absurd (Qf _) h)))
  refine Grown.read (E o d (by omega) (by omega) h1) λk a b n l r I D=>Wf rfl (Wb ?_)
  exact⟨_,_,_,_,_,_,_,⟨_,_,_,rfl,D⟩,.inl rfl⟩
 |two k t u y p=>
  intro o d z A hs;have g:(RT.two k t u).size=t.size+u.size+1:=rfl;obtain⟨d,rfl⟩:∃e,d=e+1:=⟨d-1,by omega⟩
  obtain⟨h1,j,v⟩:=hs.two;rw[g,show o+(t.size+u.size+1)-1=o+t.size+u.size by omega,zFE]
  refine zB5 v (zB5 v (zB5 v (Wc (λ_=>?_) λh=>absurd (Qf _) h)))
  refine Grown.read (y o d (by omega) (by omega) h1) λF M G O Q H C w=>Wc (λ_=>?_) λh=>absurd (Qf _) h
  refine Grown.read (p (o+t.size) d (by omega) (by omega) j) λL a2 J S R K B q=>Wb ?_
  exact⟨_,_,_,_,_,_,_,⟨_,_,_,_,rfl,w,q⟩,.inl rfl⟩
theorem zPA:zg=1180591620717411303421+1+1+1:=zHo
theorem zIZ{n:Nat}(h:n<=1000):(n+1)*64<=zc/\n+1<=zc:=by unfold zc;omega
def zOv(l:JE)(j:Nat):AV×Heap×Vecs:=(.qg [AV.sym 0,.int .i64 (ofNat j)],[],[(0,.vec 6 l)])
theorem zN8:∀(t:RT)(d:Nat)(k:Int)(a b:JV)(n l r:Int)(p l0:JE),Enc t (nv k a b n l r p)->t.size<=d->l0.length+t.size<=1000 →
  zBR d k a b n l r p l0=some (zOv (l0++t.fl l0.length) (l0.length+t.size-1)):=by
 intro t
 induction t with
 |leaf y E D C=>
  intro d k a b n l r p l0 v B F;have h:(RT.leaf y E D C).size=1:=rfl;obtain⟨d,rfl⟩:∃e,d=e+1:=⟨d-1,by omega⟩
  have e:k=y/\a=E/\b=D/\n=C/\p=[]:=by
   rcases v with e|⟨_,e⟩<;>cases e<;>exact⟨rfl,rfl,rfl,rfl,rfl⟩
  obtain⟨rfl,rfl,rfl,rfl,rfl⟩:=e;refine zj ?_
  rw[zCq,zPA,zS];refine Wf rfl (We (zIZ (by omega)) (Wb ?_))
  rw[h,Nat.add_sub_cancel];rfl
 |not t S=>
  intro d k a b n l r p l0 v B F;have h:(RT.not t).size=t.size+1:=rfl;obtain⟨d,rfl⟩:∃e,d=e+1:=⟨d-1,by omega⟩
  obtain⟨Q,J,w,e,q⟩:=v;cases e;obtain⟨H,M,I,R,O,K,L,rfl⟩:=q.nv;refine zj ?_
  rw[zCq,zPA,zS];refine Wt rfl (zA6 rfl (zDx (S d _ _ _ _ _ _ _ l0 q (by omega) (by omega)) (Wt rfl ?_)))
  rw[show wrapx IntKind.i64 (ofNat 0+1)=ofNat 1 from zq (i:=0) (by decide),zS]
  have g:(l0++t.fl l0.length).length=l0.length+t.size:=by rw[QJ,RT.fl_length]
  refine Wf rfl (We (zIZ (by rw[g];omega)) (Wb ?_))
  rw[h,g];unfold zOv;rw[show l0.length+(t.size+1)-1=l0.length+t.size by omega,RT.fl,Ql];rfl
 |two y t u A z=>
  intro d k a b n l r p l0 v B F;have h:(RT.two y t u).size=t.size+u.size+1:=rfl;obtain⟨d,rfl⟩:∃e,d=e+1:=⟨d-1,by omega⟩
  obtain⟨Q,J,w,x,e,q,G⟩:=v;cases e;obtain⟨H,M,I,R,O,K,L,rfl⟩:=q.nv;obtain⟨W,a2,U,Y,X,V,T,rfl⟩:=G.nv;have g:(l0++t.fl l0.length).length=l0.length+t.size:=by rw[QJ,RT.fl_length]
  refine zj ?_
  rw[zCq,zPA,zS];refine Wt rfl (zA6 rfl (zDx (A d _ _ _ _ _ _ _ l0 q (by omega) (by omega)) (Wt rfl ?_)))
  rw[show wrapx IntKind.i64 (ofNat 0+1)=ofNat 1 from zq (i:=0) (by decide),zS]
  refine Wt rfl (zA6 rfl (zDx (z d _ _ _ _ _ _ _ _ G (by omega) (by rw[g];omega)) (Wf rfl ?_)))
  rw[show wrapx IntKind.i64 (ofNat 1+1)=ofNat 2 from zq (i:=1) (by decide),zS]
  have j:(l0++t.fl l0.length++u.fl (l0++t.fl l0.length).length).length=l0.length+t.size+u.size:=by rw[QJ,g,RT.fl_length]
  refine Wf rfl (We (zIZ (by rw[j];omega)) (Wb ?_))
  rw[h,j];unfold zOv;rw[g,show l0.length+(t.size+u.size+1)-1=l0.length+t.size+u.size by omega,RT.fl,Ql,Ql,Ql];rfl
theorem zW4(t:RT)(d:Nat)(k:Int)(a b:JV)(n l r:Int)(v:JE)(z:Enc t (nv k a b n l r v))(O:t.size<=d)(R:t.size<=1000):
  zEl d k a b n l r v=some (zOv (t.fl 0) (t.size-1)):=by
 obtain⟨d,rfl⟩:∃e,d=e+1:=⟨d-1,by have:=t.size_pos;omega⟩
 have p:∀t:RT,(([]:JE)++t.fl 0).length=t.size:=λt=>by rw[List.nil_append,RT.fl_length]
 refine zj ?_
 rw[zI1,zPA,zA3];cases t with
 |leaf y H G C=>
  have e:k=y/\a=H/\b=G/\n=C/\v=[]:=by
   rcases z with e|⟨_,e⟩<;>cases e<;>exact⟨rfl,rfl,rfl,rfl,rfl⟩
  obtain⟨rfl,rfl,rfl,rfl,rfl⟩:=e;exact Wf rfl (We (zIZ (QV _)) (Wb rfl))
 |not t=>
  have j:(RT.not t).size=t.size+1:=rfl;obtain⟨L,E,w,e,q⟩:=z;cases e;obtain⟨B,J,D,M,K,F,I,rfl⟩:=q.nv;refine Wt rfl (zA6 rfl (zDx (zN8 t d _ _ _ _ _ _ _ [] q (by omega) (by rw[Qj];omega)) (Wt rfl ?_)))
  rw[show wrapx IntKind.i64 (ofNat 0+1)=ofNat 1 from zq (i:=0) (by decide),zA3]
  have g:(([]:JE)++t.fl ([]:JE).length).length=t.size:=p t;refine Wf rfl (We (zIZ (by rw[g];omega)) (Wb ?_))
  rw[j,g];unfold zOv;rw[Nat.add_sub_cancel,RT.fl,Qj,List.nil_append];rw[QS];rfl
 |two y t u=>
  have j:(RT.two y t u).size=t.size+u.size+1:=rfl;obtain⟨L,E,w,x,e,q,A⟩:=z;cases e;obtain⟨B,J,D,M,K,F,I,rfl⟩:=q.nv;obtain⟨U,a2,S,W,V,T,Q,rfl⟩:=A.nv;have g:(([]:JE)++t.fl ([]:JE).length).length=t.size:=p t;refine Wt rfl (zA6 rfl (zDx (zN8 t d _ _ _ _ _ _ _ [] q (by omega) (by rw[Qj];omega)) (Wt rfl ?_)))
  rw[show wrapx IntKind.i64 (ofNat 0+1)=ofNat 1 from zq (i:=0) (by decide),zA3]
  refine Wt rfl (zA6 rfl (zDx (zN8 u d _ _ _ _ _ _ _ _ A (by omega) (by rw[g];omega)) (Wf rfl ?_)))
  rw[show wrapx IntKind.i64 (ofNat 1+1)=ofNat 2 from zq (i:=1) (by decide),zA3]
  have h:(([]:JE)++t.fl ([]:JE).length++u.fl (([]:JE)++t.fl ([]:JE).length).length).length=t.size+u.size:=by rw[QJ,g,RT.fl_length]
  refine Wf rfl (We (zIZ (by rw[h];omega)) (Wb ?_))
  rw[j,h];unfold zOv;rw[g,Nat.add_sub_cancel,RT.fl,Qj,List.nil_append];rw[QS];rfl
theorem zT1{t:RT}(h:Gd t):zGo (t.fl 0)=some (.qg [.str t.told,.int .i64 (ofNat 0)]):=by
 have e:(t.fl 0).length=t.size:=t.fl_length 0;have b:=t.size_pos;have d:=h.2.1;refine zj ?_
 rw[zOb];have a:=zKr (es:=t.fl 0) (M:=56) (by decide) t 0 zg (Qh (zT (by omega))) (by omega) (Seg.whole t) h.1.bd.1 h.1.kd
 rw[QS]at a;rw[e,zCU b (by omega)]
 refine zCA (zJ0 t h.1 d) ?_
 have hc:zOu t=0:=by unfold zOu;rw[h.parse];exact if_pos rfl
 rw[hc];exact Wa (λh=>by cases h) λ_=>qk_s a (Wb rfl)
theorem zMX{t:RT}(h:Gd t):zBH (t.fl 0)=some (.int .i64 0):=by
 rw[zJ0 t h.1 h.2.1];have hc:zOu t=0:=by unfold zOu;rw[h.parse];exact if_pos rfl
 rw[hc]
theorem zMY{t:RT}(h:Gd t){k:Int}{a b:JV}{n l r:Int}{d:JE}(e:Enc t (nv k a b n l r d)):z8 k a b n l r d=some (.str t.told):=by
 refine zj ?_
 rw[zJx];have g:=h.2.1;exact zDx (zW4 t zg k a b n l r d e (Qh (zT (by omega))) (by omega)) (zR8 (zT1 h) (Wb rfl))
theorem zN9{t:RT}{k:Int}{a b:JV}{n l r:Int}{g:JE}(j:t.wf)(d:Enc t (nv k a b n l r g)):zDN k a b n l r g=some (.bool (zDM t)):=by
 rw[zMl];cases t with
 |leaf h v q p=>rcases d with e|⟨_,e⟩<;>cases e<;>rfl
 |not t=>
  obtain⟨_,_,_,e,_⟩:=d;cases e;rfl
 |two h t u=>
  obtain⟨_,_,_,_,e,_⟩:=d;cases e;rcases j.1 with rfl|rfl<;>rfl
theorem zSo{t:RT}{k:Int}{a b:JV}{n l r:Int}{j:JE}(g:t.wf)(h:Enc t (nv k a b n l r j)):zEc k a b n l r j=some (.bool (zEk t)):=by
 refine zj ?_
 rw[zKy];cases t with
 |leaf d C B y=>
  have q:(d==7)=false:=by
   rw[beq_eq_false_iff_ne];have:=g.kd;have h1:1<=d/\d<=6:=this;omega
  rcases h with e|⟨_,e⟩<;>cases e<;>exact Wf q (Wb rfl)
 |not t=>
  obtain⟨_,_,w,e,p⟩:=h;cases e;obtain⟨v,E,z,G,F,A,D,rfl⟩:=p.nv;exact Wt rfl (zA6 rfl (qk_b (zN9 (t:=t) g p) (Wb rfl)))
 |two d t u=>
  obtain⟨_,_,_,_,e,_⟩:=h;cases e;rcases g.1 with rfl|rfl<;>exact Wf rfl (Wb rfl)
theorem zZl{t:RT}{k:Int}{a b:JV}{n l r:Int}{j:JE}(p:t.wf)(g:EN t (nv k a b n l r j)):Wp (zGp k a b n l r j) (EN (w8 t)):=by
 rw[zOc];cases t with
 |leaf d B A w=>
  have q:(k==7)=false:=by
   have e:k=d:=by rcases g.enc with e|⟨_,e⟩<;>cases e<;>rfl
   rw[beq_eq_false_iff_ne,e];have:=p.kd;have h1:1<=d/\d<=6:=this;omega
  refine Wf q (Wb ?_)
  rcases g with e|⟨h1,e⟩|⟨h1,e⟩
  .cases e;exact .inl rfl
  .cases e;rw[h1];exact .inr (.inr ⟨rfl,rfl⟩)
  .cases h1
 |not t=>
  rcases g with e|⟨h1,e⟩|⟨h1,e⟩
  .cases e;obtain⟨v,D,y,F,E,z,C,h⟩:=(zAR t).nv;refine Wt rfl (zA6 (congrArg some h) (Wb (.inl h.symm)))
  .cases h1
  .cases h1;cases e;exact Wt rfl (zA6 rfl (Wb (.inr (.inl ⟨rfl,rfl⟩))))
 |two d t u=>
  rcases g with e|⟨h1,e⟩|⟨h1,e⟩
  .cases e;rcases p.1 with rfl|rfl<;>exact Wf rfl (Wb (.inl rfl))
  .cases h1
  .cases h1
theorem zS2{a b:Nat}(h:a+b<=1000):(a+b)*8<=zc/\a+b<=zc:=by unfold zc;omega
theorem zF5(k:Int):∀t:RT,(zK k t).length<=t.size
 |.leaf ..=>QA _
 |.not t=>by show 1<=t.size+1;omega
 |.two b t u=>by
  rw[zK];have h1:=zF5 k t;have a:=zF5 k u;show _<=t.size+u.size+1
  split
  .rw[QJ];omega
  .show 1<=_;omega
theorem zYm(kind:Int)(E:kind=8\/kind=9):∀(t:RT)(d:Nat)(k:Int)(a b:JV)(n l r:Int)(h:JE),t.wf->zi t=nv k a b n l r h->t.size<=d->t.size<=1000 →
  zBI d kind k a b n l r h=some (AV.sym 0,[],[(0,VI.vec 1 ((zK kind t).map zi))])/\zAx d kind k a b n l r h=some (AV.qo 1 ((zK kind t).map zi)):=by
 have one:∀(t:RT)(d:Nat)(k:Int)(a b:JV)(n l r:Int)(h:JE),zi t=nv k a b n l r h->t.size<=d->k≠kind->zK kind t=[t] →
   zBI d kind k a b n l r h=some (AV.sym 0,[],[(0,VI.vec 1 ((zK kind t).map zi))])/\zAx d kind k a b n l r h=some (AV.qo 1 ((zK kind t).map zi)):=by
  intro t d k a b n l r h e p hk w;obtain⟨d,rfl⟩:∃e,d=e+1:=⟨d-1,by have:=t.size_pos;omega⟩
  have v:(k != kind)=true:=bne_iff_ne.2 hk;rw[zFF,zD8,v,w,Qa,List.map_nil,e];exact⟨rfl,rfl⟩
 intro t
 induction t with
 |leaf g L K G=>
  intro d k a b n l r h q e p C;refine one _ d k a b n l r h e p ?_ rfl
  have h1:1<=g/\g<=6:=q.kd;cases e;omega
 |not t S=>
  intro d k a b n l r h q e p C;refine one _ d k a b n l r h e p ?_ rfl
  cases e;omega
 |two g t u A y=>
  intro d k a b n l r h q e p C;have D:(RT.two g t u).size=t.size+u.size+1:=rfl;by_cases hk:g=kind
  .subst hk;cases e;obtain⟨d,rfl⟩:∃e,d=e+1:=⟨d-1,by omega⟩
   obtain⟨F,T,H,V,U,J,M,B⟩:=(zAR t).nv;obtain⟨R,a2,O,X,W,Q,I,z⟩:=(zAR u).nv;have i1:=A d _ _ _ _ _ _ _ q.2.1 B (by omega) (by omega)
   have i2:=y d _ _ _ _ _ _ _ q.2.2 z (by omega) (by omega)
   have w:zK g (.two g t u)=zK g t++zK g u:=if_pos rfl;have j:((zK g t).map zi).length+((zK g u).map zi).length<=1000:=by
    have:=zF5 g t;have:=zF5 g u;rw[QP,QP];omega
   have v:(g != g)=false:=by simp
   constructor
   .refine zj ?_
    rw[zFF,w,Qy];exact Wf v (zA6 (congrArg some B) (zF1 i1.1 (zA6 (congrArg some z) (zSS i2.2 (We (zS2 j) (Wb rfl))))))
   .refine zj ?_
    rw[zD8,w,Qy];exact Wf v (zA6 (congrArg some B) (zF1 i1.1 (zA6 (congrArg some z) (zSS i2.2 (We (zS2 j) (Wb rfl))))))
  .refine one _ d k a b n l r h e p ?_ (if_neg hk)
   cases e;exact hk
theorem aeq_refl:∀(t:RT)(d:Nat),4*t.size+4<=d->qW d (zi t) (zi t)=true:=by
 have i64:∀(d:Nat)(x:Int),qW (d+1) (.int .i64 x) (.int .i64 x)=true:=λd x=>by simp[qW,zC9]
 have z:∀(d:Nat)(x:JV),qW (d+1) (.str x) (.str x)=true:=λd x=>by simp[qW,zIo]
 have node:∀(d:Nat)(k:Int)(a b:JV)(n l r:Int)(g:JE),zDp (qW (d+1)) g g=true->qW (d+4) (nv k a b n l r g) (nv k a b n l r g)=true:=by
  intro d k a b n l r g h;have w:qW (d+2) (.qo 1 g) (.qo 1 g)=true:=by
   show(Nat.beq 1 1&&zDp (qW (d+1)) g g)=true
   rw[h];rfl
  show(qW (d+3) (.agg _) (.agg _)&&Nat.beq 0 0)=true
  have y:qW (d+3) (.agg [.int .i64 k,.str a,.str b,.int .i64 n,.int .i64 l,.int .i64 r,.qo 1 g]) (.agg [.int .i64 k,.str a,.str b,.int .i64 n,.int .i64 l,.int .i64 r,.qo 1 g])=true:=by
   show zDp (qW (d+2)) _ _=true
   simp only[zDp,i64,z,w]
  rw[y];rfl
 intro t
 induction t with
 |leaf k a b n=>
  intro d v;obtain⟨d,rfl⟩:∃e,d=e+4:=⟨d-4,by omega⟩
  exact node d _ _ _ _ _ _ _ rfl
 |not t A=>
  intro d v;have p:(RT.not t).size=t.size+1:=rfl;obtain⟨d,rfl⟩:∃e,d=e+4:=⟨d-4,by omega⟩
  refine node d _ _ _ _ _ _ _ ?_
  simp only[zDp,A (d+1) (by omega)]
 |two k t u q j=>
  intro d v;have p:(RT.two k t u).size=t.size+u.size+1:=rfl;obtain⟨d,rfl⟩:∃e,d=e+4:=⟨d-4,by omega⟩
  refine node d _ _ _ _ _ _ _ ?_
  simp only[zDp,q (d+1) (by omega),j (d+1) (by omega)]
inductive All2:List RT->JE->Prop where
 |nil:All2 [] []
 |cons {t:RT} {v:AV} {ts:List RT} {vs:JE}:EN t v->All2 ts vs->All2 (t::ts) (v::vs)
theorem All2.len{ts:List RT}{vs:JE}(h:All2 ts vs):vs.length=ts.length:=by
 induction h with
 |nil=>rfl
 |cons _ _ a=>rw[QZ,QZ,a]
theorem All2.get{ts:List RT}{vs:JE}(h:All2 ts vs):∀{i:Nat}(a:i<ts.length),∃v,vs[i]?=some v/\EN ts[i] v:=by
 induction h with
 |nil=>intro i a;exact absurd a (Nat.not_lt_zero _)
 |cons h _ b=>
  intro i a;cases i with
  |zero=>exact⟨_,rfl,h⟩
  |succ i=>
   obtain⟨v,h1,d⟩:=b (i:=i) (by simpa using a)
   exact⟨v,h1,d⟩
theorem All2.app{ts us:List RT}{vs a:JE}(h:All2 ts vs)(k:All2 us a):All2 (ts++us) (vs++a):=by
 induction h with
 |nil=>exact k
 |cons h _ b=>exact .cons h b
theorem All2.enc:∀ts:List RT,All2 ts (ts.map zi)
 |[]=>.nil
 |t::ts=>.cons (.inl rfl) (All2.enc ts)
theorem All2.parts{k:Int}{ts:List RT}{vs:JE}(h:All2 ts vs)(a:∀p∈ts,Part k p):vs=ts.map zi:=by
 induction h with
 |nil=>rfl
 |cons h _ d=>rw[Qa,←d λp b=>a p (.tail _ b),h.part (a _ (.head _))]
def Ix(vs:JE)(f:RT->Bool)(us:List RT)(v:AV):Prop:=∃z,v=.int .i64 z/\(z=Int.negSucc 0/\us.find? f=none\/∃j t w,z=ofNat j/\vs[j]?=some w/\us.find? f=some t/\EN t w)
theorem zT2{ts:List RT}{vs:JE}(h:All2 ts vs)(z:∀p∈ts,p.wf)(B:ts.length<=2000000):Wp (zO vs) (Ix vs zDM ts):=by
 have t:=h.len;have loop:∀(m i:Nat),i<=ts.length->ts.length-i<m->Wp (zv m vs (ofNat vs.length) (ofNat i)) (Ix vs zDM (ts.drop i)):=by
  intro m
  induction m with
  |zero=>intro i _ h;omega
  |succ m A=>
   intro i C D;rw[zBk];refine Wd (λd=>?_) λv=>Wb ⟨_,rfl,.inl ⟨rfl,by rw[Qu (by omega)];rfl⟩⟩
   have d:i<ts.length:=by omega
   obtain⟨w,u,q⟩:=h.get d;obtain⟨k,a,b,n,l,r,y,rfl⟩:=q.enc.nv;have j:=z _ (Qi d);have e:ixN vs (ofNat i)=some (nv k a b n l r y):=u;refine zA6 e (qk_b (zN9 j q.enc) (Wa (λg=>Wb ⟨_,rfl,.inr ⟨i,ts[i],_,rfl,u,?_,q⟩⟩) λg=>?_))
   .rw[Qd d,List.find?_cons,g]
   .rw[zq (by omega),Qd d]
    have:=A (i+1) d (by omega)
    unfold Ix at this⊢
    rwa [List.find?_cons,g]
 rw[zBz];exact loop zg 0 (QV _) (zT (by omega))
theorem zT3{ts:List RT}{vs:JE}(h:All2 ts vs)(z:∀p∈ts,p.wf)(B:ts.length<=2000000):Wp (zN vs) (Ix vs zEk ts):=by
 have t:=h.len;have loop:∀(m i:Nat),i<=ts.length->ts.length-i<m->Wp (zu m vs (ofNat vs.length) (ofNat i)) (Ix vs zEk (ts.drop i)):=by
  intro m
  induction m with
  |zero=>intro i _ h;omega
  |succ m A=>
   intro i C D;rw[zA7];refine Wd (λd=>?_) λv=>Wb ⟨_,rfl,.inl ⟨rfl,by rw[Qu (by omega)];rfl⟩⟩
   have d:i<ts.length:=by omega
   obtain⟨w,u,q⟩:=h.get d;obtain⟨k,a,b,n,l,r,y,rfl⟩:=q.enc.nv;have j:=z _ (Qi d);have e:ixN vs (ofNat i)=some (nv k a b n l r y):=u;refine zA6 e (qk_b (zSo j q.enc) (Wa (λg=>Wb ⟨_,rfl,.inr ⟨i,ts[i],_,rfl,u,?_,q⟩⟩) λg=>?_))
   .rw[Qd d,List.find?_cons,g]
   .rw[zq (by omega),Qd d]
    have:=A (i+1) d (by omega)
    unfold Ix at this⊢
    rwa [List.find?_cons,g]
 rw[zBp];exact loop zg 0 (QV _) (zT (by omega))
theorem zZJ{us:JE}{j:Nat}{x:AV}(h:us[j]?=some x)(hx:zEa x=true):ldE us (Int.toNat (ofNat j)) 0 1 false=some x:=by
 show(match us[j]? with|some e=>Go.Sy.part e.cells 0 1 false|none=>none)=_
 rw[h];cases x with
 |qc e o=>rfl
 |_=>cases hx
theorem zYn{t:RT}{v:AV}(e:t.wf)(d:Enc t v):zTD [v]=some (.bool (zDM t)):=by
 obtain⟨k,a,b,n,l,r,g,rfl⟩:=d.nv;have h:=zN9 e d;unfold zDN at h;exact h
theorem zYo{t:RT}{v:AV}(e:t.wf)(d:Enc t v):zTE [v]=some (.bool (zEk t)):=by
 obtain⟨k,a,b,n,l,r,g,rfl⟩:=d.nv;have h:=zSo e d;unfold zEc at h;exact h
theorem EN.ep{t:RT}{v:AV}(h:EN t v):zEa v=true:=by
 obtain⟨k,a,b,n,l,r,d,rfl⟩:=h.enc.nv;rfl
theorem zT4{g:JE->JF}{f:RT->Bool}(q:∀t v,t.wf->Enc t v->g [v]=some (.bool (f t))){ts:List RT}{vs:JE}(h:All2 ts vs):(∀p∈ts,p.wf)->∃b,zIU g vs=some b/\All2 (ts.filter λt=>!f t) b:=by
 induction h with
 |nil=>intro _;exact⟨[],rfl,.nil⟩
 |cons d w u=>
  intro k;obtain⟨b,e,a⟩:=u λp r=>k p (.tail _ r)
  have j:=q _ _ (k _ (.head _)) d.enc;rename_i t v ts vs;cases hf:f t with
  |true=>
   refine⟨b,?_,?_⟩
   .unfold zIU;rw[d.ep];simp only;rw[j,e,hf]
   .rw[List.filter_cons_of_neg (by rw[hf];decide)];exact a
  |false=>
   refine⟨v::b,?_,?_⟩
   .unfold zIU;rw[d.ep];simp only;rw[j,e,hf]
   .rw[List.filter_cons_of_pos (by rw[hf];decide)];exact .cons d a
theorem zMZ{a b:Nat}(h:a<b):Nat.blt a b=true:=Nat.ble_eq_true_of_le h
theorem zT5{ts:List RT}{vs:JE}(h:All2 ts vs)(k:∀p∈ts,p.wf)(j:ts≠[])(q:ts.length<=1000):∃b,zFj vs=some (AV.sym 0,[],[(0,VI.vec 1 b)])/\All2 (ts.filter λt=>!zDM t) b:=by
 obtain⟨b,e,d⟩:=zT4 (f:=zDM) (λt v=>zYn) h k
 refine⟨b,?_,d⟩
 have a:=h.len;cases vs with
 |nil=>exact absurd (List.eq_nil_of_length_eq_zero a.symm) j
 |cons x r=>
  show(match zIU zTD (x::r)with|some g=>(match Nat.blt (x::r).length 9223372036854775808 with|true=>some (AV.sym 0,([]:Heap),[(0,VI.vec 1 g)])|false=>none)|none=>none)=_
  rw[e,zMZ (by omega)]
theorem zT6{ts:List RT}{vs:JE}(h:All2 ts vs)(k:∀p∈ts,p.wf)(j:ts≠[])(q:ts.length<=1000):∃b,zEN vs=some (AV.sym 0,[],[(0,VI.vec 1 b)])/\All2 (ts.filter λt=>!zEk t) b:=by
 obtain⟨b,e,d⟩:=zT4 (f:=zEk) (λt v=>zYo) h k
 refine⟨b,?_,d⟩
 have a:=h.len;cases vs with
 |nil=>exact absurd (List.eq_nil_of_length_eq_zero a.symm) j
 |cons x r=>
  show(match zIU zTE (x::r)with|some g=>(match Nat.blt (x::r).length 9223372036854775808 with|true=>some (AV.sym 0,([]:Heap),[(0,VI.vec 1 g)])|false=>none)|none=>none)=_
  rw[e,zMZ (by omega)]
theorem zT7{t:RT}(h:Gd t):zH1 [zi t]=some (.str t.told):=by
 obtain⟨k,a,b,n,l,r,d,e⟩:=(zAR t).nv;rw[e];exact zMY h (e▸zAR t)
theorem zPB{t:RT}(h:Gd t):zEU zH1 (zi t)=t.told:=by
 unfold zEU kOf;rw[zT7 h];rfl
theorem zSp(t:RT):zEa (zi t)=true:=(show EN t (zi t)from .inl rfl).ep
theorem zW5{ts:List RT}(h:∀p∈ts,Gd p):zH0 zH1 (ts.map zi)=true:=by
 unfold zH0;rw[qr,QD,QD];refine⟨λv b=>?_,λv b=>QD.2 λw g=>?_⟩
 .obtain⟨t,a,rfl⟩:=QL.1 b;unfold kOf;rw[zSp,zT7 (h t a)];rfl
 .obtain⟨t,a,rfl⟩:=QL.1 b;obtain⟨u,d,rfl⟩:=QL.1 g;rw[zPB (h t a),zPB (h u d)];cases hb:seqb t.told u.told with
  |false=>rfl
  |true=>
   rw[zAG]at hb;have e:=(h t a).inj (h u d) (Qc hb);subst e;have:=(h t a).2.1;rw[aeq_refl t 400 (by omega)];rfl
theorem zQy{lt:AV->AV->Bool}{t:RT}:∀{ts:List RT},(∀u∈t::ts,∀w∈t::ts,lt (zi u) (zi w)=ltT u w)->zFW lt (zi t) (ts.map zi)=(zFW ltT t ts).map zi
 |[],_=>rfl
 |u::ts,h=>by
  rw[Qa];unfold zFW;rw[h t (.head _) u (.tail _ (.head _))];cases ltT t u with
  |true=>rfl
  |false=>
   show zi u::zFW lt (zi t) (ts.map zi)=zi u::_
   have sub:∀x,x∈t::ts->x∈t::u::ts:=λx a=>by
    rcases QG.1 a with rfl|a
    .exact .head _
    .exact .tail _ (.tail _ a)
   rw[zQy λx a y b=>h x (sub x a) y (sub y b)]
theorem zOL{lt:AV->AV->Bool}:∀{ts:List RT},(∀u∈ts,∀w∈ts,lt (zi u) (zi w)=ltT u w)->isort lt (ts.map zi)=(isort ltT ts).map zi
 |[],_=>rfl
 |t::ts,h=>by
  rw[Qa,isort,isort,zOL λu b w a=>h u (.tail _ b) w (.tail _ a)]
  refine zQy λu b w a=>h u ?_ w ?_
  .rcases QG.1 b with rfl|b
   .exact .head _
   .exact .tail _ (zAs.mem_iff.1 b)
  .rcases QG.1 a with rfl|a
   .exact .head _
   .exact .tail _ (zAs.mem_iff.1 a)
theorem zT8{ts:List RT}(h:∀p∈ts,Gd p)(d:ts.length<=1000):zB8 (ts.map zi)=some (.qg [],[],[(0,VI.vec 1 ((isort ltT ts).map zi))]):=by
 show(match zH0 zH1 (ts.map zi)with|true=>(match Nat.blt (ts.map zi).length 4611686018427387904 with|true=>some (AV.qg [],([]:Heap),[(0,VI.vec 1 (zHe (λs t=>decide (zIS s t<0)) zH1 (ts.map zi)))])|false=>none)|false=>none)=_
 rw[zW5 h,zMZ (by rw[QP];omega)]
 have e:zHe (λs t=>decide (zIS s t<0)) zH1 (ts.map zi)=(isort ltT ts).map zi:=by
  unfold zHe;rw[zPW];refine zOL λu b w a=>?_
  rw[zPB (h u b),zPB (h w a)];rfl
 rw[e]
theorem zWt{t u:RT}(k:Gd t)(q:Gd u):gEq [zi t,zi u]=some (.bool (seqb t.told u.told)):=by
 obtain⟨d,y,e,A,z,j,p,b⟩:=(zAR t).nv;obtain⟨w,a2,r,C,B,v,g,a⟩:=(zAR u).nv;have h:zE8 d y e A z j p w a2 r C B v g=some (.bool (seqb t.told u.told)):=by
  refine zj ?_
  rw[zKg];exact qk_s (zMY k (b▸zAR t)) (qk_s (zMY q (a▸zAR u)) (Wb rfl))
 unfold zE8 at h;rw[b,a];exact h
theorem zYp{t u:RT}(b:Gd t)(a:Gd u):eqOf gEq (zi t) (zi u)=seqb t.told u.told:=by
 unfold eqOf;rw[zWt b a]
theorem zYq{p:RT}(b:Gd p):∀{ts:List RT},(∀t∈ts,Gd t)->zFf gEq (zi p) (ts.map zi)=(dedG p ts).map zi:=by
 intro ts
 induction ts generalizing p with
 |nil=>intro _;rfl
 |cons y r d=>
  intro h;have a:=h y (.head _);have i:=d a λt e=>h t (.tail _ e)
  rw[Qa];unfold zFf dedG;rw[zYp a b];cases seqb y.told p.told with
  |true=>exact i
  |false=>show zi y::_=zi y::_;rw[i]
theorem zT9{ts:List RT}(h:∀p∈ts,Gd p)(q:ts.length<=1000):zB9 (ts.map zi)=some (AV.sym 0,[],[(0,VI.vec 1 ((dedT ts).map zi))]):=by
 show(match(ts.map zi).all zEa&&(ts.map zi).all λa=>(ts.map zi).all λb=>zOD gEq a b with|true=>(match Nat.blt (ts.map zi).length 9223372036854775808 with|true=>some (AV.sym 0,([]:Heap),[(0,VI.vec 1 (cmL gEq (ts.map zi)))])|false=>none)|false=>none)=_
 have h1:((ts.map zi).all zEa&&(ts.map zi).all λa=>(ts.map zi).all λb=>zOD gEq a b)=true:=by
  rw[qr,QD,QD];refine⟨λv g=>?_,λv g=>QD.2 λw j=>?_⟩
  .obtain⟨t,d,rfl⟩:=QL.1 g;exact zSp t
  .obtain⟨t,d,rfl⟩:=QL.1 g;obtain⟨u,k,rfl⟩:=QL.1 j;unfold zOD;rw[zWt (h t d) (h u k)]
 rw[h1,zMZ (by rw[QP];omega)]
 have e:cmL gEq (ts.map zi)=(dedT ts).map zi:=by
  cases ts with
  |nil=>rfl
  |cons x r=>
   show zi x::zFf gEq (zi x) (r.map zi)=zi x::_
   rw[zYq (h x (.head _)) λt d=>h t (.tail _ d)]
 rw[e]
theorem zYr(k:Int)(g:List RT)(E:g.length<=1000):∀(m i:Nat)(t:RT)(c:Int)(a b:JV)(n l r:Int)(p:JE),zi t=nv c a b n l r p->i<=g.length->g.length-i<m →
  zAY m k c a b n l r p (g.map zi) (ofNat (g.map zi).length) (ofNat i)=some (zi (zAu k t (g.drop i)),[],[]):=by
 intro m
 induction m with
 |zero=>intro i t c a b n l r p e y h;omega
 |succ m B=>
  intro i t c a b n l r p e y F;refine zj ?_
  rw[zI4];refine Wd (λd=>?_) λj=>Wb ?_
  .have d:i<g.length:=by simpa using d
   obtain⟨A,a2,w,D,C,z,v,u⟩:=(zAR g[i]).nv;have q:ixN (g.map zi) (ofNat i)=some (nv A a2 w D C z v):=by rw[zSP d,u]
   refine zA6 q ?_
   rw[zq (by omega)]
   refine⟨_,B (i+1) (.two k t g[i]) k [] [] z0 z0 z0 _ (by rw[zi,e,u]) d (by omega),?_⟩
   rw[Qd d];rfl
  .rw[QP]at j;rw[Qu j,show zAu k t []=t from rfl,e]
section
variable{β:Type}{P:β->Prop}{f:Int->JV->JV->Int->Int->Int->JE->Option β}
theorem zS3(q:Wp (f 1 [] [] z0 z0 z0 []) P):Wp (dK true yi zFB f) P:=by
 rw[zM8];exact q
theorem EN.read{wk:Bool}{t:RT}{o:JF}(h:Wp o (EN t))(q:∀k a b n l r d,EN t (nv k a b n l r d)->Wp (f k a b n l r d) P):Wp (dK wk yi o f) P:=by
 obtain⟨v,rfl,e⟩:=h;obtain⟨k,a,b,n,l,r,d,rfl⟩:=e.enc.nv;exact zA6 rfl (q _ _ _ _ _ _ _ e)
end
def Jn(k:Int)(ts:List RT)(x:AV×Heap×Vecs):Prop:=∃v,x=(v,[],[])/\EN (zAp k ts) v
theorem zQz:EN zJS (nv 1 [] [] z0 z0 z0 []):=.inr (.inl ⟨rfl,rfl⟩)
theorem zSq{k:Int}(hk:k=8\/k=9){ts:List RT}(F:ts.length<=1000)(h:ts.find? (zEx k)=none){w a2 a3 a4:Int}{c d:JV}{m:Int}{q:JE}(C:EN (zJr k) (nv w c d a2 a3 a4 q)):
  Wp (br (ofNat (List.length ((rowT k ts).map zi))==0) (some (nv w c d a2 a3 a4 q,([]:Heap),([]:Vecs)))
   (dK true yi (ixN ((rowT k ts).map zi) 0) λn13 z A n14 n15 n16 p=>
    gd (decide ((0:Int)<=1/\1<=ofNat (List.length ((rowT k ts).map zi)))) (zAY zg k n13 z A n14 n15 n16 p (List.drop (Int.toNat 1) (List.take (Int.toNat (ofNat (List.length ((rowT k ts).map zi)))) ((rowT k ts).map zi)))
     (ofNat (List.length (List.drop (Int.toNat 1) (List.take (Int.toNat (ofNat (List.length ((rowT k ts).map zi)))) ((rowT k ts).map zi))))) (ofNat 0)))) (Jn k ts):=by
 have D:zAp k ts=match rowT k ts with|[]=>zJr k|t::r=>zAu k t r:=by unfold zAp;rw[h]
 have g:(rowT k ts).length<=1000:=by
  have h1:=(zQr (l:=isort ltT (ts.filter λt=>!zAQ k t))).length_le
  have E:=(zAs (lt:=ltT) (l:=ts.filter λt=>!zAQ k t)).length_eq
  have G:=List.length_filter_le (λt=>!zAQ k t) ts
  unfold rowT;omega
 unfold Jn;rw[D];cases hr:rowT k ts with
 |nil=>exact Wt rfl (Wb ⟨_,rfl,C⟩)
 |cons t r=>
  rw[hr]at g;have g:r.length+1<=1000:=g;obtain⟨c0,a,b,n,l,v,u,e⟩:=(zAR t).nv;have B:(ofNat (List.length ((t::r).map zi))==0)=false:=by
   rw[beq_eq_false_iff_ne,QP,QZ,QB];omega
  have j:ixN ((t::r).map zi) 0=some (nv c0 a b n l v u):=congrArg some e;have y:List.drop (Int.toNat 1) (List.take (Int.toNat (ofNat (List.length ((t::r).map zi)))) ((t::r).map zi))=r.map zi:=by
   rw[show Int.toNat (ofNat (List.length ((t::r).map zi)))=((t::r).map zi).length from rfl,List.take_length];rfl
  refine Wf B (zA6 j (We ⟨by decide,by rw[QP,QZ,QB];omega⟩ ?_))
  rw[y];exact⟨_,zYr k r (by omega) zg 0 t c0 a b n l v u e (QV _) (zT (by omega)),_,rfl,.inl (by rw[List.drop_zero])⟩
theorem zVw{k:Int}(hk:k=8\/k=9){ts:List RT}{vs:JE}(h:All2 ts vs)(R:∀p∈ts,Gd p)(I:∀p∈ts,p.kn≠k)(Q:ts≠[])(G:ts.length<=1000):Wp (zF6 vs k) (Jn k ts):=by
 have H:∀p∈ts,p.wf:=λp A=>(R p A).1
 have S:=h.len;have found:∀(z:Int)(v:AV),Ix vs (zEx k) ts (.int .i64 z)->z>=0->Wp (gd (decide (0<=z/\z<ofNat (List.length vs))) (dK true yi (ldE vs (Int.toNat z) 0 1 false) λn13 T V n14 n15 n16 M=>some (nv n13 T V n14 n15 n16 M,([]:Heap),([]:Vecs)))) (Jn k ts):=by
  intro z v g r;obtain⟨U,e,⟨rfl,_⟩|⟨j,t,w,rfl,h1,O,J⟩⟩:=g
  .cases e;exact absurd r (by decide)
  .cases e;obtain⟨c0,a,b,n,l,r0,Y,rfl⟩:=J.enc.nv;have X:=(QC.1 h1).1;refine We ⟨r,Int.ofNat_lt.2 X⟩ (zA6 (zZJ h1 rfl) (Wb ⟨_,rfl,?_⟩))
   have:zAp k ts=t:=by unfold zAp;rw[O]
   rw[this];exact J
 have D:∀(z:Int),Ix vs (zEx k) ts (.int .i64 z)->¬z>=0->ts.find? (zEx k)=none:=by
  intro z g r;obtain⟨U,e,⟨rfl,K⟩|⟨j,t,w,rfl,h1,O,J⟩⟩:=g
  .exact K
  .cases e;exact absurd (Qf _) r
 have parts:ts.find? (zEx k)=none->∀p∈ts.filter λt=>!zAQ k t,Part k p:=λF p A=>by
  have A:=List.mem_filter.1 A;exact .of (I p A.1) (by simpa using A.2) (by simpa using List.find?_eq_none.1 F p A.1)
 have C:∀p∈ts.filter λt=>!zAQ k t,Gd p:=λp A=>R p (List.mem_filter.1 A).1
 have u:(ts.filter λt=>!zAQ k t).length<=1000:=QI (List.length_filter_le _ _) G
 have y:∀p∈isort ltT (ts.filter λt=>!zAQ k t),Gd p:=λp A=>C p (zAs.mem_iff.1 A)
 have B:(isort ltT (ts.filter λt=>!zAQ k t)).length<=1000:=by rw[zAs.length_eq];exact u
 rw[zLP];rcases hk with rfl|rfl
 .refine zS3 (Wf rfl ?_)
  obtain⟨v,e,z,rfl,g⟩:=zT3 h H (by omega)
  refine zCA e (Wc (λr=>found z (.int .i64 z) ⟨z,rfl,g⟩ r) λr=>?_)
  have F:=D z ⟨z,rfl,g⟩ r;obtain⟨W,L,E⟩:=zT5 h H Q G;have:=E.parts (parts F);subst this;refine zF1 L (zP3 (zT8 C u) (zF1 (zT9 y B) ?_))
  exact zSq (k:=8) (.inl rfl) G F (m:=0) zQz
 .refine zS3 (Wt rfl (zS3 (EN.read (zZl zQt zQz) λa1 c d a2 a3 a4 q K=>?_)))
  obtain⟨v,e,z,rfl,g⟩:=zT2 h H (by omega)
  refine zCA e (Wc (λr=>found z (.int .i64 z) ⟨z,rfl,g⟩ r) λr=>?_)
  have F:=D z ⟨z,rfl,g⟩ r;obtain⟨W,L,E⟩:=zT6 h H Q G;have:=E.parts (parts F);subst this;refine zF1 L (zP3 (zT8 C u) (zF1 (zT9 y B) ?_))
  exact zSq (k:=9) (.inr rfl) G F (m:=0) K
theorem zSr{kind:Int}(hk:kind=8\/kind=9){t:RT}{d:Nat}{k:Int}{a b:JV}{n l r:Int}{g:JE}(v:t.wf)(p:EN t (nv k a b n l r g))(q:t.size<=d)(u:t.size<=1000):
  ∃vs,zBI d kind k a b n l r g=some (AV.sym 0,[],[(0,VI.vec 1 vs)])/\zAx d kind k a b n l r g=some (AV.qo 1 vs)/\All2 (zK kind t) vs:=by
 have one:k≠kind->zK kind t=[t]->∃vs,zBI d kind k a b n l r g=some (AV.sym 0,[],[(0,VI.vec 1 vs)])/\zAx d kind k a b n l r g=some (AV.qo 1 vs)/\All2 (zK kind t) vs:=λh1 h=>by
  obtain⟨d,rfl⟩:∃e,d=e+1:=⟨d-1,by have:=t.size_pos;omega⟩
  have j:(k != kind)=true:=bne_iff_ne.2 h1;refine⟨[nv k a b n l r g],?_,?_,?_⟩
  .rw[zFF,j];rfl
  .rw[zD8,j];rfl
  .rw[h];exact .cons p .nil
 rcases p with e|⟨rfl,e⟩|⟨rfl,e⟩
 .obtain⟨h1,h⟩:=zYm kind hk t d k a b n l r g v e.symm q u;exact⟨_,h1,h,All2.enc _⟩
 .cases e;exact one (by omega) rfl
 .cases e;exact one (by omega) rfl
theorem zYs:∀(t:RT)(d:Nat)(k:Int)(a b:JV)(n l r:Int)(j:JE),Enc t (nv k a b n l r j)->Gd t->t.size<=d->Wp (zDj d k a b n l r j) (EN (nf t)):=by
 intro t
 induction t with
 |leaf g X W V=>
  intro d k a b n l r j q h hd;obtain⟨d,rfl⟩:∃e,d=e+1:=⟨d-1,by have:(RT.leaf g X W V).size=1:=rfl;omega⟩
  have ab:1<=g/\g<=6:=h.1.kd;have U:EN (RT.leaf g X W V) (nv k a b n l r j):=by
   rcases q with e|⟨rfl,e⟩
   .exact .inl e
   .refine .inr (.inl ?_)
    have:=zJu h.1 rfl;refine⟨this,?_⟩
    cases this;exact e
  have e:k=g:=by rcases q with e|⟨_,e⟩<;>cases e<;>rfl
  subst e;rw[zFG];refine Wf (by rw[beq_eq_false_iff_ne];omega) (Wf (by rw[beq_eq_false_iff_ne];omega) ?_)
  rw[zGE];exact Wf (by rw[beq_eq_false_iff_ne];omega) (Wb U)
 |not t ih=>
  intro d k a b n l r j q h hd;have T:(RT.not t).size=t.size+1:=rfl;obtain⟨d,rfl⟩:∃e,d=e+1:=⟨d-1,by omega⟩
  obtain⟨l',r',w,e,y⟩:=q;cases e;obtain⟨I,D,C,F,O,J,K,rfl⟩:=y.nv;rw[zFG];refine Wt rfl (zA6 rfl (EN.read (ih d _ _ _ _ _ _ _ y h.not (by omega)) λB a2 L G E M z h2=>EN.read (zZl (zJt h.not.1) h2) λk3 a3 b3 n3 l3 r3 p3 Q=>Wb Q))
 |two g t u R S=>
  intro d k a b n l r j q h hd;have T:(RT.two g t u).size=t.size+u.size+1:=rfl;obtain⟨d,rfl⟩:∃e,d=e+1:=⟨d-1,by omega⟩
  obtain⟨l',r',w,x,e,Y,y⟩:=q;cases e;obtain⟨I,D,C,F,O,J,K,rfl⟩:=Y.nv;obtain⟨B,a2,L,G,E,M,z,rfl⟩:=y.nv;obtain⟨hk,A,H⟩:=h.two;have aa:=h.2.1;have st:=(zGZ A.1).1;have su:=(zGZ H.1).1;have key:Wp (zEd d g [] [] z0 l r [nv I D C F O J K,nv B a2 L G E M z] true) (EN (nf (.two g t u))):=by
   rw[zGE];refine Wt rfl (zA6 (o:=ixN [nv I D C F O J K,nv B a2 L G E M z] 0) rfl (EN.read (R d _ _ _ _ _ _ _ Y A (by omega)) λk3 a3 b3 n3 l3 r3 p3 Q=>zA6 (o:=ixN [nv I D C F O J K,nv B a2 L G E M z] 1) rfl (EN.read (S d _ _ _ _ _ _ _ y H (by omega)) λk4 a4 b4 n4 l4 r4 p4 h4=>?_)))
   obtain⟨vs,f1,_,f3⟩:=zSr hk (d:=zg) A.nf.1 Q (Qh (zT (by omega))) (by omega)
   obtain⟨ws,_,g2,g3⟩:=zSr hk (d:=zg) H.nf.1 h4 (Qh (zT (by omega))) (by omega)
   have lv:=f3.len;have lw:=g3.len;have ad:=zF5 g (nf t);have ac:=zF5 g (nf u);refine zF1 f1 (zSS g2 (We (zS2 (by omega)) ?_))
   have hj:=zVw hk (f3.app g3) h.parts (λp hp=>(zQu hk A.1 H.1 p hp).2) (λe=>zN7 g _ (List.append_eq_nil_iff.1 e).1) (by rw[QJ];omega)
   obtain⟨_,ej,v,rfl,hv⟩:=hj;obtain⟨k5,a5,b5,n5,l5,r5,p5,rfl⟩:=hv.enc.nv;exact zN1 ej (Wb hv)
  rw[zFG];rcases hk with rfl|rfl
  .exact Wf rfl (Wt rfl key)
  .exact Wf rfl (Wf rfl key)
theorem zKw{t:RT}(h:Gd t):zCl (t.fl 0)=some (.qg [.agg [.qo 6 ((nf t).fl 0)],.int .i64 0]):=by
 have q:=h.2.1;have d:=t.size_pos;refine zj ?_
 rw[zM9];refine zCA (zMX h) (Wf rfl ?_)
 rw[RT.fl_length,zCU d (by omega)]
 have e:=zYl (es:=t.fl 0) t 0 zg (Qh (zT (by omega))) (by omega) (Seg.whole t)
 rw[QS]at e;refine Grown.read e λk a b n l r j p=>EN.read (zYs t zg k a b n l r j p h (Qh (zT (by omega)))) λy a2 v A z w u g=>qk_s (zMY h.nf g.enc) ?_
 rw[zE1 _ h.nf.1.h8,h.nf.parse];exact zGN rfl (Wb rfl)
theorem zW6{t u:RT}(h:Gd t)(k:Gd u):zGS (t.fl 0) (u.fl 0)=some (.qg [.bool (decide ((nf t).fl 0=(nf u).fl 0)),.int .i64 0]):=by
 have:=h.nf.2.1;refine zj ?_
 rw[zMo];exact zFz (zKw h) (Wf rfl (zFz (zKw k) (Wf rfl (qk_b (zQb _ _ (zGA _ 0) (zGA _ 0) (by rw[RT.fl_length];omega)) (Wb rfl)))))
theorem zW7{s:JV}{t:RT}(h8:∀c∈s,c<256)(h:zBE s=.ok t):zCm s=some (.str (nf t).told):=by
 have a:=zQv h;refine zj ?_
 rw[zGF];have e:zDh s=some (.agg [.qo 6 (t.fl 0)]):=by
  refine zj ?_
  rw[zHI,zE1 s h8,h];exact zGN rfl (Wb rfl)
 rw[e];exact zFz (zKw a) (zR8 (zT1 a.nf) (Wf rfl (Wf rfl (Wb rfl))))
def tL:RT:=.two 8 (.leaf 6 [98] [] 0) (.two 8 (.leaf 6 [97] [] 0) (.leaf 6 [98] [] 0))
theorem zW8:zCn=some (.bool true):=by
 have h:zBE [98,32,38,32,40,97,32,38,32,98,41]=.ok tL:=by rfl
 have e:(nf tL).told=[97,32,38,32,98]:=by rfl
 refine zj ?_
 rw[zGG];refine qk_s (zW7 (by decide) h) (Wb ?_)
 rw[e];rfl
theorem zW9{l:List Pr}(g:Pok l){t u:RT}(d:Gd t)(a:Gd u)(k:zt l u=zt l t):∃b c,zCo (t.fl 0) (pvs l)=some (.qg [.bool b,.int .i64 c])/\zCo (u.fl 0) (pvs l)=some (.qg [.bool b,.int .i64 c]):=by
 obtain⟨v,e,c,rfl,hc⟩:=zMR l g;rcases hc with⟨rfl,j⟩|⟨rfl,_⟩
 .refine⟨_,_,zJ2 g j d.1 d.2.1 (zMX d),?_⟩
  rw[zJ2 g j a.1 a.2.1 (zMX a),k]
 .have one:∀{t:RT},Gd t->zCo (t.fl 0) (pvs l)=some (.qg [.bool false,.int .i64 2]):=λh=>by
   refine zj ?_
   rw[zIk];exact zCA (zMX h) (Wf rfl (zCA e (Wt rfl (Wb rfl))))
  exact⟨_,_,one d,one a⟩
theorem zUa(es:JE)(h:NdL es)(p:es.length<=2000000):zCa es es=some (.bool true):=by
 have loop:∀(m i:Nat),i<=es.length->es.length-i<m->zAB m (ofNat i) es es=some (.bool true):=by
  intro m
  induction m with
  |zero=>intro i _ h;omega
  |succ m j=>
   intro i q t;refine zj ?_
   rw[zFw];refine Wd (λd=>?_) λ_=>Wb rfl
   obtain⟨k,a,b,n,l,r,e⟩:=h _ (Qi d);have g:ixN es (ofNat i)=some (nd6 k a b n l r):=(zDW d).trans (congrArg some e);refine zEV g (zEV g ?_)
   rw[zWs,Qq rfl,zq (by omega)]
   exact Wf rfl ⟨_,j (i+1) d (by omega),rfl⟩
 refine zj ?_
 rw[zF8];exact Wf (by simp) ⟨_,loop zg 0 (QV _) (zT (by omega)),rfl⟩
theorem law{s:JV}(h8:∀c∈s,c<256){l:List Pr}(q:Pok l):zBj s (pvs l)=some (.bool true):=by
 refine zj ?_
 rw[zFa];refine qk_b zW8 (Wf rfl ?_)
 rw[zE1 s h8];cases g:zBE s with
 |error e=>
  obtain⟨e,f⟩:=e;have w:=zMQ h8 g;show Wp (br (!(e==0&&f==0)) _ _) _
  rw[w];exact Wb rfl
 |ok t=>
  have a:=zQv g;have j:=a.nf;have k:nf (nf t)=nf t:=zWZ a.1;refine zGN (x3:=t.fl 0) (x5:=0) (x6:=0) rfl (Wf rfl ?_)
  have v:=zKw a;have p:=zKw j;rw[k]at p;have d:¬ofNat ((nf t).fl 0).length > ofNat (t.fl 0).length:=by
   rw[RT.fl_length,RT.fl_length];have:=(zGZ a.1).1;simp only[QB];omega
  have z:=j.2.1;refine zFz v (zFz p (Wf rfl (Wf rfl (zCA (zMX j) (Wf rfl (Wc (λh=>absurd h d) λ_=>qk_b (x1:=true) (zUa _ (zGA _ 0) (by rw[RT.fl_length];omega)) ?_))))))
  rw[zED];refine Wf rfl ?_
  obtain⟨b,c,h1,u⟩:=zW9 q a j (zJv l a);have r:=zW6 a j;rw[k,Qq rfl]at r;have g:(List.length (chunks 2 0 [])+List.length (pvs l))*32<=zc/\List.length (chunks 2 0 [])+List.length (pvs l)<=zc:=by
   have:=q.len;have e:List.length (chunks 2 0 [])+List.length (pvs l)=l.length:=by
    rw[QP];exact QS _
   rw[e];unfold zc;omega
  have y:chunks 2 0 []++pvs l=pvs l:=rfl;rw[zEC,y];refine We g (zN0 h1 (We g (zN0 u (zN0 r (Wt ?_ (Wt ?_ (Wb rfl)))))))
  .simp
  .simp
def zM0:List CD:=[.str,.str]
section
variable{N:Nat}
theorem zQA{a:AV}(h:CD.Ok N .str a):∃s,a=.str s/\s.length<=N/\∀c∈s,c<256:=by cases h with|str l h d b=>exact⟨l,rfl,b,h⟩
theorem zLv{c:CD}{cs:List CD}{l:JE}(h:CD.wT N (c::cs) l):∃a r,l=a::r/\CD.Ok N c a/\CD.wT N cs r:=by cases h with|cons h hs=>exact⟨_,_,rfl,h,hs⟩
theorem zQB{l:JE}(h:CD.wT N [] l):l=[]:=by cases h;rfl
theorem zZK{es:List CD}{a:AV}(h:CD.Ok N (.sl es false) a):∃xs:List JE,a=.qo es.length (xs.map .agg)/\(∀x∈xs,CD.wT N es x)/\xs.length<=N:=by cases h with|agg es xs h b=>exact⟨xs,rfl,h,b⟩
theorem zSs{α:Type}{av:α->AV}{Q:α->Prop}{es:List CD}:∀{xs:List JE},(∀x∈xs,CD.wT N es x)->(∀x,CD.wT N es x->∃u,AV.agg x=av u/\Q u)->∃l:List α,xs.map AV.agg=l.map av/\l.length=xs.length/\∀u∈l,Q u
 |[],_,_=>⟨[],rfl,rfl,λv a=>by cases a⟩
 |x::xs,h,k=>by
  obtain⟨l,h1,b,g⟩:=zSs (λy d=>h y (.tail _ d)) k
  obtain⟨u,e,q⟩:=k x (h x (.head _));refine⟨u::l,by rw[Qa,Qa,h1,e],by rw[QZ,QZ,b],λv a=>?_⟩
  rcases QG.1 a with rfl|a
  .exact q
  .exact g v a
theorem zYt{a:AV}(w:N<=2000000)(h:CD.Ok N (.sl zM0 false) a):∃l,a=.qo 2 (pvs l)/\Pok l:=by
 obtain⟨u,rfl,h1,p⟩:=zZK h;obtain⟨l,e,r,d⟩:=zSs (av:=Pr.av) (Q:=λx=>x.n.length<=2000000/\x.v.length<=2000000/\∀c∈x.v,c<256) h1 λx h=>by
  obtain⟨_,_,rfl,g,h⟩:=zLv h;obtain⟨_,_,rfl,j,h⟩:=zLv h;obtain rfl:=zQB h;obtain⟨s,rfl,hs,k⟩:=zQA g;obtain⟨t,rfl,q,t8⟩:=zQA j;exact⟨⟨s,t⟩,rfl,by show s.length<=_;omega,by show t.length<=_;omega,t8⟩
 exact⟨l,by rw[e];rfl,λx b=>(d x b).1,λx b=>(d x b).2,by omega⟩
theorem zYu{x y:AV}(k:N<=2000000)(hx:CD.Ok N .str x)(b:CD.Ok N (.sl zM0 false) y):FnT Tryz.prog G0 4 [x,y] [] 0 (.bool true) [] 0:=by
 have h:=hx.pp;have j:=b.pp;obtain⟨s,rfl,_,h8⟩:=zQA hx;obtain⟨l,rfl,d⟩:=zYt k b;have e:=law h8 d;have g:zCd Tryz.prog G0 4 (gV t61 1 4):=(t61.ok zg).at;refine(g _ _ (λz a=>?_) (by unfold zBj at e;exact e)).2.2 [] 0
 rcases QG.1 a with rfl|a
 .exact h
 .rw[QY.1 a];exact j
theorem zOM{v:Value}(h:v.oneCell'=true):v.cells.toList=[v]:=by cases v<;>first|rfl|cases h
end
def zM1(H:Type):BK H:=⟨Rows.uptoBulk,Rows.uptoBulkAll,λ_=>rfl,λd=>by
 cases d with
 |lit l=>cases l<;>exact Qw _
 |_=>exact Qw _,λ_ _=>rfl,λ_=>rfl,rfl,λ_ _=>rfl⟩
theorem zYv:zLk Tryz.prog 9 9=some [.str]:=by kernel_rfl
theorem zYw:zLk Tryz.prog 10 37=some [.sl zM0 false]:=by kernel_rfl
end Go.Proofs.YtcolommdbibghaaGreatDoor.canon
