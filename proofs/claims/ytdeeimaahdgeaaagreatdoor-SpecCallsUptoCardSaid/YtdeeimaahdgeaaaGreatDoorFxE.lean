/- A LIBRARY: WHAT A FUNCTION'S CODE RECKONS, AS A LEAN FUNCTION, AND THAT ITS WORD IS THE MODEL'S: part 5 of 6. No condition. -/
import Derived.Test.YtdeeimaahdgeaaaGreatDoorFxD
set_option linter.unusedVariables false
set_option linter.unusedSimpArgs false
namespace Go.Sy
section
variable {β:Type} {P:Program} {U:Nat} {G:Cx} {tb:TbF} {th:TbH} {st:Sta} {r:β}
theorem zOS {th:TbH} {f:Nat} {e:FEnt} (h:zKM th f=some e):e∈th/\e.f=f:=by
 induction th with
 | nil=>cases h
 | cons s r a=>
  simp only [zKM] at h;split at h
  ·rename_i q;cases h;exact ⟨.head _,(zb q).symm⟩
  ·exact ⟨.tail _ (a h).1,(a h).2⟩
theorem zNc (w:TbW P G (tbS tb)) (g:∀e∈th,FOK P G e) (m:GPP G) {o:FOp} (a:opOK o.o.op=true) {k:AV->Sta->Option β} (s:CPS st) (h:fopT G tb th st o k=some r):∃v u p,Stp G tb st true k r (wopT G (tbS tb) st (toT th o)) v u p:=by
 unfold fopT at h;unfold wopT toT;split at h
 ·rename_i n;simp only [n,Option.map_none];exact zOj w m a s h
 ·rename_i D n;simp only [n,Option.map_some];unfold zS4 at h;unfold zLD;split at h
  ·rename_i f args c;simp only [c];split at h
   ·rename_i e j;obtain ⟨q,A⟩:=zOS j;simp only [zKN,j,Option.map_some];split at h
    ·rename_i z l;simp only [l];have b:args.all xvOK=true:=by rw [c] at a;simp only [opOK,XO.qb,zW,QT] at a;exact a
     exact zNV (g e q) s (zFd m s.fr b l) h
    ·cases h
   ·cases h
  ·rename_i B args c;simp only [c];have b:xvOK B=true/\args.all xvOK=true:=by rw [c] at a;simp only [opOK,XO.qb,zW,List.all_append,QX,List.all_nil,QT,QA] at a;exact a
   split at h
   ·rename_i E first y i;simp only [i];split at h
    ·rename_i e j;obtain ⟨q,A⟩:=zOS j;simp only [zKN,j,Option.map_some];split at h
     ·rename_i z l;simp only [l];refine zNV (g e q) s (λ x d=>?_) h
      have t:=zR m s.fr b.1 i;cases t with
      | func _ _ _ q1 C=>
       rcases QI.1 d with d | d
       ·rcases QI.1 d with d | d
        ·exact q1 x d
        ·exact zFd m s.fr b.2 l x d
       ·exact C x d
     ·cases h
    ·cases h
   ·cases h
  ·cases h
theorem CPS.skip (s:CPS st) {d:Option Nat}:CPS (st.put d (.qf [])):=s.qv (.qf _ λ e a=>by cases a)
theorem CPS.vj {st:Sta} (s:CPS st) (F:List Nat):CPS (vj F (zFx F st.H) st):=by
 have e:HCP st.mv st.m (zFx F st.H):=λ p a=>s.H p (zEq a).1
 refine ⟨λ t u d=>?_,λ p a=>s.H p (zAZ a).1,s.V,λ p a=>s.lt p (zAZ a).1⟩
 obtain ⟨v,c,rfl⟩:=zJI d;have hc:=s.fr t v c;unfold frzV;split
 ·exact hc
 ·split
  ·rename_i f b;exact (zMl e 8 hc b).cp
  ·exact hc
theorem CPS.wx {st:Sta} (s:CPS st) {v:AV} (hc:CP st.mv st.m v):CP st.mv st.m (wx st.V v):=by
 unfold Sy.wx;split
 ·split
  ·rename_i a;exact .qp _ _ (s.V _ _ a).2
  ·exact hc
 ·exact hc
theorem CPS.wP {st:Sta} (s:CPS st):CPS (wP st):=by
 refine ⟨λ t u a=>?_,s.H,λ j c h=>(by cases h),s.lt⟩
 have a:Fr.get (st.fr.map λ p=>(p.1,Sy.wx st.V p.2)) t=some u:=a
 rw [Fr.get_map] at a;cases hg:Fr.get st.fr t with
 | none=>rw [hg] at a;cases a
 | some b=>
  rw [hg] at a;cases a;exact s.wx (s.fr t b hg)
theorem zT4 (i:TbW P G (tbS tb)) (l:∀e∈th,FOK P G e) (x:GPP G) {o:FOp} (f:opOK o.o.op=true) {k:AV->Sta->Option β} (s:CPS st) (h:fopR G tb th st o k=some r):∃v u c,Stp G tb st true k r (wopR G (tbS tb) st (toT th o)) v u c:=by
 unfold fopR at h;unfold wopR;have e:isFz (toT th o).h (toT th o).o.op=isFz o.h o.o.op:=by
  obtain ⟨⟨d,op,g⟩,D,A⟩:=o;cases op <;> cases A <;> rfl
 rw [e];cases hf:isFz o.h o.o.op with
 | true=>
  rw [hf] at h;simp only at h ⊢;have t:∀C,wop G (tbS tb) st o.o.op [] C->WXd st (xoS G ze st.fr st.H st.m o.o.op) C:=λ C hc=>by
   cases ho:o.o.op <;> rw [ho] at hf hc <;> first | exact hc | cases hf
  have h:fop false G tb st o.o.op [] (λ v st=>ffrz st v k)=some r:=by
   cases ho:o.o.op <;> rw [ho] at hf h <;> first | exact h | cases hf
  obtain ⟨v,u,c,q⟩:=zOj i x f s h;have B:=q.eq rfl;subst B;have a:=q.k;unfold ffrz at a;split at a
  ·rename_i b;refine ⟨_,_,_,a,.refl _,λ _=>rfl,q.wW.wx q.cp,q.wW.wP,λ C j=>t _ (q.w _ ?_),q.le⟩
   unfold wfrz;rw [b];exact j
  ·rename_i b;simp only at a;split at a
   ·rename_i n y;refine ⟨n,n,_,a,.refl _,λ _=>rfl,(zMl (λ p z=>q.wW.H p (zEq z).1) 8 q.cp y).cp,q.wW.vj _,λ C j=>t _ (q.w _ ?_),q.le⟩
    unfold wfrz;rw [b];simp only [y];exact j
   ·cases a
 | false=>
  rw [hf] at h;simp only at h ⊢;exact zNc i l x f s h
theorem zJM (x:TbW P G (tbS tb)) (p:∀e∈th,FOK P G e) (E:GPP G):∀{ops:List FOp} {k:Sta->Option β} {st:Sta},(∀o∈ops,opOK o.o.op=true)->CPS st->fops G tb th ops k st=some r →
  ∃a,k a=some r/\CPS a/\∀C:Sta->Prop,C a->wops G (tbS tb) (ops.map (toT th)) C st
 | [],k,st,_,s,h=>⟨st,h,s,λ C d=>d⟩
 | o::ops,k,st,y,s,h=>by
  have l:∀D∈ops,opOK D.o.op=true:=λ D J=>y D (.tail _ J)
  have step:∀{st:Sta},CPS st->fopR G tb th st o (λ v st=>fops G tb th ops k (st.put o.o.dst v))=some r->∃a,k a=some r/\CPS a/\∀C:Sta->Prop,C a->wopR G (tbS tb) st (toT th o) λ v st=>∃F,WK v F/\wops G (tbS tb) (ops.map (toT th)) C (st.put o.o.dst F):=λ{st} s h=>by
   obtain ⟨v,u,I,q⟩:=zT4 x p E (y o (.head _)) s h;obtain ⟨a,i,g,j⟩:=zJM x p E l (q.wW.qv q.cp) q.k;exact ⟨a,i,g,λ C d=>q.w _ ⟨u,q.vE,j C d⟩⟩
  have skip:∀{st:Sta},CPS st->fops G tb th ops k (st.put o.o.dst (.qf []))=some r->∃a,k a=some r/\CPS a/\∀C:Sta->Prop,C a->wops G (tbS tb) (ops.map (toT th)) C (st.put o.o.dst (.qf [])):=λ{st} s h=>zJM x p E l s.skip h
  simp only [fops] at h;split at h
  ·rename_i z;obtain ⟨a,i,g,j⟩:=step s h;refine ⟨a,i,g,λ C d=>?_⟩
   have f:(toT th o).o.guard=none:=z;simp only [Qd,wops,f];exact j C d
  ·rename_i t b z;have f:(toT th o).o.guard=some (t,b):=z;split at h
   ·rename_i c hc;have h:=zI4 h;have B:=qq hc;simp only [B] at h;have A:(⟨st.fr,st.H,st.V,st.m,st.mv⟩:Sta)=st:=rfl;rw [A] at h;split at h
    ·rename_i n;obtain ⟨a,i,g,j⟩:=step s h;refine ⟨a,i,g,λ C d=>?_⟩
     simp only [Qd,wops,f,hc];unfold brT;have:=j C d;cases c <;> (simp only [Br,B,n];exact this)
    ·rename_i n;obtain ⟨a,i,g,j⟩:=skip s h;refine ⟨a,i,g,λ C d=>?_⟩
     simp only [Qd,wops,f,hc];unfold brT;have:=j C d;cases c <;> (simp only [Br,B,n];exact this)
   ·rename_i hc;obtain ⟨a,i,g,j⟩:=skip s h;refine ⟨a,i,g,λ C d=>?_⟩
    simp only [Qd,wops,f,hc];exact j C d
   ·cases h
theorem zT5 (g:TbW P G (tbS tb)) (i:GPP G) {o:XO} {c:List K} (b:opOK o=true) {k:AV->Sta->Option β} (s:CPS st) (h:fopD G tb st o c k=some r):∃v a,k v a=some r/\CP a.mv a.m v/\CPS a/\∀C:AV->Sta->Prop,C v a->wopD G (tbS tb) st o c C:=by
 have A:CPS ⟨st.fr,st.H,[],st.m,st.mv⟩:=⟨s.fr,s.H,λ j f h=>(by cases h),s.lt⟩
 have gen:fop false G tb ⟨st.fr,st.H,[],st.m,st.mv⟩ o c (λ v a=>k v ⟨a.fr,a.H,st.V,a.m,a.mv⟩)=some r->∃v a,k v a=some r/\CP a.mv a.m v/\CPS a/\∀C:AV->Sta->Prop,C v a->wop G (tbS tb) ⟨st.fr,st.H,[],st.m,st.mv⟩ o c (λ v a=>C v ⟨a.fr,a.H,st.V,a.m,a.mv⟩):=λ h=>by
  obtain ⟨v,u,a,q⟩:=zOj g i b A h;have:=q.eq rfl;subst this;exact ⟨u,_,q.k,q.cp,⟨q.wW.fr,q.wW.H,λ j f l=>⟨QZ (s.V j f l).1 q.le,(s.V j f l).2⟩,q.wW.lt⟩,λ C d=>q.w _ d⟩
 cases o <;> first | (cases h;done) | exact gen h | skip
 case vb x=>
  simp only [fopD] at h;split at h
  ·rename_i D;split at h
   ·rename_i y hc;cases hb:zAN y with
    | none=>rw [hb] at h;cases h
    | some t=>
     rw [hb] at h;exact ⟨.str t,st,h,.str _,s,λ C d=>by simp only [wopD];unfold WXd;simp only [xoS,D,hc,hb];exact d⟩
   ·cases h
  ·cases h
 have h:FXd st (xoS G ze st.fr st.H st.m _) k=some r:=h;unfold FXd at h;split at h
 ·rename_i v H m e;obtain ⟨z,n⟩:=zLE (by rfl) b i s.fr s.H e
  obtain ⟨B,p⟩:=zNP (by rfl) s.lt e
  exact ⟨v,_,h,z,⟨s.fr.mono (QB _) p,n,s.V,B⟩,λ C hc=>by simp only [wopD];unfold WXd;simp only [e];exact hc⟩
 ·cases h
theorem zIA (n:TbW P G (tbS tb)) (y:GPP G):∀{ops:List FOp} {k:Sta->Option β} {st:Sta},(∀o∈ops,opOK o.o.op=true)->CPS st->zIz G tb ops k st=some r →
  ∃a,k a=some r/\CPS a/\∀C:Sta->Prop,C a->zCx G (tbS tb) (ops.map (toT th)) C st
 | [],k,st,_,s,h=>⟨st,h,s,λ C d=>d⟩
 | o::ops,k,st,p,s,h=>by
  have j:∀x∈ops,opOK x.o.op=true:=λ x A=>p x (.tail _ A)
  have step:∀{st:Sta},CPS st->fopD G tb st o.o.op o.ks (λ v st=>zIz G tb ops k (st.put o.o.dst v))=some r->∃a,k a=some r/\CPS a/\∀C:Sta->Prop,C a->wopD G (tbS tb) st o.o.op o.ks λ v st=>zCx G (tbS tb) (ops.map (toT th)) C (st.put o.o.dst v):=λ{st} s h=>by
   obtain ⟨v,z,q1,E,B,D⟩:=zT5 n y (p o (.head _)) s h;obtain ⟨a,g,f,i⟩:=zIA n y j (B.qv E) q1;exact ⟨a,g,f,λ C d=>D _ (i C d)⟩
  have skip:∀{st:Sta},CPS st->zIz G tb ops k (st.put o.o.dst (.qf []))=some r->∃a,k a=some r/\CPS a/\∀C:Sta->Prop,C a->zCx G (tbS tb) (ops.map (toT th)) C (st.put o.o.dst (.qf [])):=λ{st} s h=>zIA n y j s.skip h
  simp only [zIz] at h;split at h
  ·rename_i q;obtain ⟨a,g,f,i⟩:=step s h;refine ⟨a,g,f,λ C d=>?_⟩
   have e:(toT th o).o.guard=none:=q;simp only [Qd,zCx,e];exact i C d
  ·rename_i t b q;have e:(toT th o).o.guard=some (t,b):=q;split at h
   ·rename_i c hc;have h:=zI4 h;have w:=qq hc;simp only [w] at h;have u:(⟨st.fr,st.H,st.V,st.m,st.mv⟩:Sta)=st:=rfl;rw [u] at h;split at h
    ·rename_i l;obtain ⟨a,g,f,i⟩:=step s h;refine ⟨a,g,f,λ C d=>?_⟩
     simp only [Qd,zCx,e,hc];unfold brT;have:=i C d;cases c <;> (simp only [Br,w,l];exact this)
    ·rename_i l;obtain ⟨a,g,f,i⟩:=skip s h;refine ⟨a,g,f,λ C d=>?_⟩
     simp only [Qd,zCx,e,hc];unfold brT;have:=i C d;cases c <;> (simp only [Br,w,l];exact this)
   ·rename_i hc;obtain ⟨a,g,f,i⟩:=skip s h;refine ⟨a,g,f,λ C d=>?_⟩
    simp only [Qd,zCx,e,hc];exact i C d
   ·cases h
theorem zKO (o:FOp):clsQ (toT th o)=clsQ (toQ o):=by
 unfold clsQ toT toQ;cases o.h <;> rfl
theorem zNW:∀(ops:List FOp) (ds:List XD),zGR (ops.map (toT th)) ds=zGR (ops.map toQ) ds
 | [],_=>rfl
 | o::r,[]=>rfl
 | o::r,d::ds=>by
  simp only [Qd,zGR,zNW r ds];rfl
theorem zQc:∀(ops:List FOp) (ds:List XD) (i:Nat) (a b c:List Nat),seqQ i a b c (ops.map (toT th)) ds=seqQ i a b c (ops.map toQ) ds
 | [],_,_,_,_,_=>rfl
 | o::r,[],_,_,_,_=>rfl
 | o::r,d::ds,i,a,b,c=>by
  simp only [Qd,seqQ,zQc r ds,zKO]
theorem Heap.wT {h h':Nat} (a:h'≠h):∀{H:Heap} {o:HO},(H.put h o).get h'=H.get h'
 | [],o=>by
  simp only [Heap.put,Heap.get]
 | (k,x)::r,o=>by
  simp only [Heap.put];cases hk:Nat.beq k h with
  | true=>
   have:=zb hk;subst this;simp only [Heap.get];cases hb:Nat.beq k h' with
   | true=>exact absurd (zb hb).symm a
   | false=>rfl
  | false=>
   simp only [Heap.get];split
   ·rfl
   ·exact Heap.wT a
theorem zWq {lo:Option Nat} {st:Sta} (s:CPS st) {o:FOp} (h:okQ lo G st o=true) (hc:clsQ (toT th o)=1):(∀g v,XV.t g∈o.o.op.qb->st.fr.get g=some v->CP st.mv (bndL lo st.m) v)/\∀h str cs,h<bndL lo st.m->st.H.get h=some (.cells str cs)->∀x∈cs,CP st.mv (bndL lo st.m) x:=by
 rw [zKO] at hc;unfold okQ at h;rw [hc] at h;simp only at h;cases lo with
 | none=>exact ⟨λ g v _ d=>s.fr g v d,λ h str cs _ b x c=>by
   obtain ⟨_,_,e,a⟩:=s.H.get b;cases e;exact a x c⟩
 | some l=>
  simp only [QA,QG] at h;refine ⟨λ g v b d=>?_,λ j str cs i b x c=>?_⟩
  ·have:=h.1 g (zEo b);rw [d] at this;exact (s.fr g v d).lt 12 this
  ·obtain ⟨_,_,e,a⟩:=s.H.get b;cases e;have f:=zPT h.2 (QZ i (Nat.min_le_left _ _)) b;exact (a x c).lt 12 (QG.1 f x c)
theorem zT6 (K:TbW P G (tbS tb)) (F:∀e∈th,FOK P G e) (X:GPP G) {o:FOp} (D:opOK o.o.op=true) {k:AV->Sta->Option β} (s:CPS st) {lo:Option Nat} (j:okQ lo G st o=true) (h:fopQ G tb th st o k=some r):∃v u a,Stp G tb st true k r (wopT G (tbS tb) st (toT th o)) v u a ∧
  (clsQ (toT th o)<=1->HV st a)/\(clsQ (toT th o)=2->a.V=st.V/\a.mv=st.mv/\st.m<=a.m/\∀h,h<bndL lo st.m->a.H.get h=st.H.get h):=by
 unfold fopQ at h;split at h
 ·rename_i hc;obtain ⟨v,u,a,q⟩:=zNc K F X D s h;have A:=q.k;split at A
  rotate_left
  ·cases A
  rename_i C;have C:=zb C;have hc:clsQ (toT th o)<=1:=by rw [zKO];exact QM hc
  refine ⟨v,u,a,⟨A,q.vE,q.eq,q.cp,q.wW,q.w,q.le⟩,λ _=>?_,λ p=>by omega⟩
  have b:(toT th o).h=none:=by
   cases z:(toT th o).h with
   | none=>rfl
   | some es=>unfold clsQ at hc;rw [z] at hc;simp at hc
  have i:=q.w (λ _ x=>x=a) rfl
  unfold wopT at i;rw [b] at i;obtain ⟨fr,H,V,m,Y⟩:=st;by_cases R:clsQ (toT th o)=1
  ·have i:=zSY (C':=λ _ x=>x=a/\HV ⟨fr,H,V,m,Y⟩ x) (m2:=m) (ms:=m) X D ⟨λ _ _=>rfl,λ h str cs z hg c N=>by
    obtain ⟨_,_,e,W⟩:=s.H.get hg;cases e;exact W c N⟩ (λ t v _ I=>s.fr t v I) (cls1 b R) (λ v I=>⟨I,rfl,rfl,rfl,rfl⟩) i
   obtain ⟨_,_,rfl,S⟩:=zP7 i;exact S
  ·have A:=cls0 b (by omega)
   have i:=zSX (C':=λ _ x=>x=a/\HV ⟨fr,H,V,m,Y⟩ x) (H2:=H) (V2:=V) (m2:=m) (mv2:=Y) A.1 A.2 (λ v x E=>by rw [E];exact C) (λ v f I=>⟨I,rfl,rfl,rfl,rfl⟩) i
   obtain ⟨_,_,rfl,S⟩:=zP7 i;exact S
 ·rename_i hc;obtain ⟨v,u,a,q⟩:=zNc K F X D s h;have hc:¬clsQ (toT th o)<=1:=by
   rw [zKO];intro J;rw [Nat.ble_eq_true_of_le J] at hc;cases hc
  refine ⟨v,u,a,q,λ R=>absurd R hc,λ p=>?_⟩
  have b:(toT th o).h=none:=by
   cases z:(toT th o).h with
   | none=>rfl
   | some es=>unfold clsQ at p;rw [z] at p;simp at p
  have i:=q.w (λ _ x=>x=a) rfl
  unfold wopT at i;rw [b] at i;have B:∀{o':XO},zX o'=2->WXd st (xoS G ze st.fr st.H st.m o') (λ _ x=>x=a)->a.V=st.V/\a.mv=st.mv/\st.m<=a.m/\∀h,h<bndL lo st.m->a.H.get h=st.H.get h:=λ A i=>by
   unfold WXd at i;split at i
   ·rename_i v' H' n e;subst i;obtain ⟨ob,_,rfl,rfl⟩:=zPQ A e;refine ⟨rfl,rfl,QY _,λ h z=>?_⟩
    have:h≠st.m:=by have:=zU6 (lo:=lo) (m:=st.m);omega
    simp only [Heap.get];cases hb:Nat.beq st.m h with
    | true=>exact absurd (zb hb).symm this
    | false=>rfl
   ·exact i.elim
  obtain ⟨⟨d,op,g⟩,ks,z⟩:=o;have aa:z=none:=by
   cases z with
   | none=>rfl
   | some _=>cases b
  subst aa;simp only [clsQ,toT,Option.map_none] at p;simp only [toT] at i;cases op <;> first | (simp [zX] at p;done) | exact B (by rfl) i | exact B (o':=.alloc _) rfl i | skip
  ·simp only at p;split at p
   ·cases p
   ·rename_i O;simp only [wop] at i;exact B (o':=.qD _ _ _ _) rfl i
  ·rename_i x y sz _;simp only at p;split at p
   ·cases p
   ·rename_i O;have T:clsQ (toQ ⟨⟨d,.store x y sz,g⟩,ks,none⟩)=2:=by
     unfold clsQ toQ;simp only [Option.map_none]
    have L:∃l h off,lo=some l/\x.ev G st.fr=some (.ptr h off)/\l<=h:=by
     unfold okQ at j;rw [T] at j;simp only at j;split at j
     ·split at j
      ·rename_i E;exact ⟨_,_,_,rfl,E,QM j⟩
      ·cases j
     ·cases j
    obtain ⟨l,h,off,rfl,E,J⟩:=L;simp only [wop,E] at i;unfold WXd at i;split at i
    ·rename_i v' H' n e;subst i;simp only [xoS,E] at e;split at e
     ·rename_i he _;cases he;split at e
      ·split at e
       ·split at e
        ·cases e;refine ⟨rfl,rfl,QB _,λ h' z=>?_⟩
         have M:h'≠h:=by
          have:bndL (some l) st.m<=l:=Nat.min_le_left _ _;omega
         exact Heap.wT M
        ·cases e
       ·cases e
      ·cases e
     ·cases e
    ·exact i.elim
theorem zIB (D:TbW P G (tbS tb)) (A:∀e∈th,FOK P G e) (T:GPP G) {lo:Option Nat}:∀{ops:List FOp} {k:Sta->Option β} {st:Sta},(∀o∈ops,opOK o.o.op=true)->CPS st->zHL lo G tb th ops k st=some r →
  ∃c:Nat->Sta,c 0=st/\ChQ G (tbS tb) lo (ops.map (toT th)) c/\CPS (c ops.length)/\k (c ops.length)=some r
 | [],k,st,_,s,h=>⟨λ _=>st,rfl,⟨λ i t a=>(by cases a),λ i t a=>(by cases a),λ i t a=>(by cases a),λ i _=>⟨s.fr,s.H⟩,λ i t a=>(by cases a)⟩,s,h⟩
 | o::ops,k,st,L,s,h=>by
  have j:∀S∈ops,opOK S.o.op=true:=λ S X=>L S (.tail _ X)
  have B:okQ lo G st o=true:=by
   simp only [zHL] at h;split at h
   ·assumption
   ·cases h
  have l:∀{f:Nat->Sta},ChQ G (tbS tb) lo (ops.map (toT th)) f->zEa G (tbS tb) st (toT th o) (λ x=>x=f 0)->(clsQ (toT th o)<=1->HV st (f 0)) →
    (clsQ (toT th o)=2->(f 0).V=st.V/\(f 0).mv=st.mv/\st.m<=(f 0).m/\∀h,h<bndL lo st.m->(f 0).H.get h=st.H.get h)->CPS (f ops.length)->k (f ops.length)=some r →
    ∃c:Nat->Sta,c 0=st/\ChQ G (tbS tb) lo ((o::ops).map (toT th)) c/\CPS (c (o::ops).length)/\k (c (o::ops).length)=some r:=λ{f} F J E K Y h5=>by
   refine ⟨λ n=>match n with
    | 0=>st
    | n+1=>f n,rfl,⟨λ i t a=>?_,λ i t a=>?_,λ i t a=>?_,λ i hi=>?_,λ i t a=>?_⟩,Y,h5⟩
   ·cases i with
    | zero=>cases a;exact J
    | succ i=>exact F.st i t a
   ·cases i with
    | zero=>cases a;exact E
    | succ i=>exact F.hv i t a
   ·cases i with
    | zero=>cases a;exact K
    | succ i=>exact F.al i t a
   ·cases i with
    | zero=>exact ⟨s.fr,s.H⟩
    | succ i=>exact F.cp i (by simpa using hi)
   ·cases i with
    | zero=>cases a;exact zWq s B
    | succ i=>exact F.rd i t a
  have step:fopQ G tb th st o (λ v st=>zHL lo G tb th ops k (st.put o.o.dst v))=some r->(∀C:Sta->Prop,(wopT G (tbS tb) st (toT th o) λ v st=>∃W,WK v W/\C (st.put o.o.dst W))->zEa G (tbS tb) st (toT th o) C) →
    ∃c:Nat->Sta,c 0=st/\ChQ G (tbS tb) lo ((o::ops).map (toT th)) c/\CPS (c (o::ops).length)/\k (c (o::ops).length)=some r:=λ h R=>by
   obtain ⟨v,u,I,q,q1,q2⟩:=zT6 D A T (L o (.head _)) s B h;obtain ⟨f,z,J,E,K⟩:=zIB D A T j (q.wW.qv q.cp) q.k;have e:∀{d:Option Nat},HV I (I.put d u):=λ{d}=>by cases d <;> exact ⟨rfl,rfl,rfl,rfl⟩
   refine l J (R _ (q.w _ ⟨u,q.vE,z.symm⟩)) (λ hc=>?_) (λ hc=>?_) E K
   ·rw [z];exact (q1 hc).trans e
   ·obtain ⟨a1,a2,a3,a4⟩:=q2 hc;rw [z];have e:=e (d:=o.o.dst);rw [e.V,e.mv,e.m,e.H];exact ⟨a1,a2,a3,a4⟩
  have skip:zHL lo G tb th ops k (st.put o.o.dst (.qf []))=some r->(∀C:Sta->Prop,C (st.put o.o.dst (.qf []))->zEa G (tbS tb) st (toT th o) C) →
    ∃c:Nat->Sta,c 0=st/\ChQ G (tbS tb) lo ((o::ops).map (toT th)) c/\CPS (c (o::ops).length)/\k (c (o::ops).length)=some r:=λ h R=>by
   obtain ⟨f,z,J,E,K⟩:=zIB D A T j s.skip h;have e:∀{d:Option Nat},HV st (st.put d (.qf [])):=λ{d}=>by cases d <;> exact ⟨rfl,rfl,rfl,rfl⟩
   refine l J (R _ z.symm) (λ hc=>?_) (λ hc=>?_) E K
   ·rw [z];exact e
   ·have e:=e (d:=o.o.dst);rw [z,e.V,e.mv,e.m,e.H];exact ⟨rfl,rfl,QB _,λ _ _=>rfl⟩
  simp only [zHL,B] at h;split at h
  ·rename_i M;refine step h λ C y=>?_
   have g:(toT th o).o.guard=none:=M;simp only [zEa,g];exact y
  ·rename_i t b M;have g:(toT th o).o.guard=some (t,b):=M;split at h
   ·rename_i c hc;have h:=zI4 h;have O:=qq hc;simp only [O] at h;have N:(⟨st.fr,st.H,st.V,st.m,st.mv⟩:Sta)=st:=rfl;rw [N] at h;split at h
    ·rename_i p;refine step h λ C y=>?_
     simp only [zEa,g,hc];unfold brT;cases c <;> (simp only [Br,O,p];exact y)
    ·rename_i p;refine skip h λ C y=>?_
     simp only [zEa,g,hc];unfold brT;cases c <;> (simp only [Br,O,p];exact y)
   ·rename_i hc;refine skip h λ C y=>?_
    simp only [zEa,g,hc];exact y
   ·cases h
def mkT (U:Nat) (G:Cx) (tb:TbF) (th:TbH) (r:β):FC->(List Nat->Ext->Sta->Option β)->TC
 | .skip,_=>.skip
 | .ret,_=>.ret
 | .exit i,_=>.exit i
 | .wD e,_=>.wD (e.map (toT th))
 | .draw h e g,_=>.draw h (e.map (toT th)) g
 | .qO e g,_=>.qO (e.map (toT th)) g
 | .seq a b,K=>.seq (mkT U G tb th r a λ d=>zFB (K d) (FT U G tb th b (K d))) (mkT U G tb th r b K)
 | .cond c a b,K=>.cond c (mkT U G tb th r a K) (mkT U G tb th r b K)
 | .block i b,K=>.block i (mkT U G tb th r b λ d=>zKh i (K d))
 | .qA k b,K=>.qA k (mkT U G tb th r b λ d=>match d with
   | n::d=>zFB (K d) (zGv (FT U G tb th b) (K d) n)
   | []=>λ _ _=>none)
 | .loop _ c b,K=>.loop c (λ d f H V=>match d with
   | n::d=>CPS (mkW c f H V)/\zJK (FT U G tb th b) c (K d) n f H V=some r
   | []=>False) (mkT U G tb th r b λ d=>match d with
   | n::d=>zPo c (K d) (zJK (FT U G tb th b) c (K d) (n-1))
   | []=>λ _ _=>none)
 | .we _ c a b,K=>.we c (λ d f H V=>CPS (mkW c f H V)/\FT U G tb th b (K d) (mkW c f H V)=some r)
   (mkT U G tb th r a λ d=>zFB (K d) (cutO c λ f H V=>FT U G tb th b (K d) (mkW c f H V))) (mkT U G tb th r b K)
def fcOK:FC->Bool
 | .wD c | .draw _ c _ | .qO c _=>c.all λ t=>opOK t.o.op
 | .seq a b | .we _ _ a b | .cond _ a b=>fcOK a&&fcOK b
 | .block _ b | .loop _ _ b | .qA _ b=>fcOK b
 | _=>true
def fcN (pn:List Nat):FC->Bool
 | .wD c | .qO c _=>c.all λ t=>match t.o.dst with
  | some d=>!inN d pn
  | none=>true
 | .draw e c _=>(c.all λ t=>match t.o.dst with
  | some d=>!inN d pn
  | none=>true)&&pn.all λ t=>inN t e
 | .seq a b | .we _ _ a b | .cond _ a b=>fcN pn a&&fcN pn b
 | .block _ b | .loop _ _ b | .qA _ b=>fcN pn b
 | _=>true
theorem zHW:∀{fc:FC} {K:List Nat->Ext->Sta->Option β},er (mkT U G tb th r fc K)=ef fc
 | .skip,_ | .ret,_ | .exit _,_=>rfl
 | .wD c,_=>by simp only [mkT,er,ef,List.map_map];rfl
 | .draw _ c _,_=>by simp only [mkT,er,ef,List.map_map];rfl
 | .qO c _,_=>by simp only [mkT,er,ef,List.map_map];rfl
 | .seq a b,_=>by simp only [mkT,er,ef,zHW]
 | .cond _ a b,_=>by simp only [mkT,er,ef,zHW]
 | .block _ b,_=>by simp only [mkT,er,ef,zHW]
 | .loop _ _ b,_=>by simp only [mkT,er,ef,zHW]
 | .qA _ b,_=>by simp only [mkT,er,ef,zHW]
 | .we _ _ a b,_=>by simp only [mkT,er,ef,zHW]
theorem zHX:∀{fc:FC} {K:List Nat->Ext->Sta->Option β},tcOK (mkT U G tb th r fc K)=fcOK fc
 | .skip,_ | .ret,_ | .exit _,_=>rfl
 | .wD c,_=>by simp only [mkT,tcOK,fcOK,List.all_map];rfl
 | .draw _ c _,_=>by simp only [mkT,tcOK,fcOK,List.all_map];rfl
 | .qO c _,_=>by simp only [mkT,tcOK,fcOK,List.all_map];rfl
 | .seq a b,_=>by simp only [mkT,tcOK,fcOK,zHX]
 | .cond _ a b,_=>by simp only [mkT,tcOK,fcOK,zHX]
 | .block _ b,_=>by simp only [mkT,tcOK,fcOK,zHX]
 | .loop _ _ b,_=>by simp only [mkT,tcOK,fcOK,zHX]
 | .qA _ b,_=>by simp only [mkT,tcOK,fcOK,zHX]
 | .we _ _ a b,_=>by simp only [mkT,tcOK,fcOK,zHX]
theorem zKP {pn:List Nat}:∀{fc:FC} {K:List Nat->Ext->Sta->Option β},tcN pn (mkT U G tb th r fc K)=fcN pn fc
 | .skip,_ | .ret,_ | .exit _,_=>rfl
 | .wD c,_=>by simp only [mkT,tcN,fcN,List.all_map];rfl
 | .draw _ c _,_=>by simp only [mkT,tcN,fcN,List.all_map];rfl
 | .qO c _,_=>by simp only [mkT,tcN,fcN,List.all_map];rfl
 | .seq a b,_=>by simp only [mkT,tcN,fcN,zKP]
 | .cond _ a b,_=>by simp only [mkT,tcN,fcN,zKP]
 | .block _ b,_=>by simp only [mkT,tcN,fcN,zKP]
 | .loop _ _ b,_=>by simp only [mkT,tcN,fcN,zKP]
 | .qA _ b,_=>by simp only [mkT,tcN,fcN,zKP]
 | .we _ _ a b,_=>by simp only [mkT,tcN,fcN,zKP]
theorem zGX (c:∀e∈th,FOK P G e):∀{fc:FC} {K:List Nat->Ext->Sta->Option β},tcH (HOK P G) (mkT U G tb th r fc K)
 | .skip,_ | .ret,_ | .exit _,_=>trivial
 | .wD g,_=>by
  intro t i l d e k;obtain ⟨o,_,rfl⟩:=Qf.1 i;simp only [toT] at d;cases ho:o.h with
  | none=>rw [ho] at d;cases d
  | some p=>
   rw [ho,Option.map_some] at d;cases d;obtain ⟨j,f,rfl⟩:=Qf.1 k;exact (c j f).h
 | .draw _ g _,_=>trivial
 | .qO g _,_=>by
  intro t i l d e k;obtain ⟨o,_,rfl⟩:=Qf.1 i;simp only [toT] at d;cases ho:o.h with
  | none=>rw [ho] at d;cases d
  | some p=>
   rw [ho,Option.map_some] at d;cases d;obtain ⟨j,f,rfl⟩:=Qf.1 k;exact (c j f).h
 | .seq a b,_=>⟨zGX c,zGX c⟩
 | .cond _ a b,_=>⟨zGX c,zGX c⟩
 | .block _ b,_=>zGX (fc:=b) c
 | .loop _ _ b,_=>zGX (fc:=b) c
 | .qA _ b,_=>zGX (fc:=b) c
 | .we _ _ a b,_=>⟨zGX c,zGX c⟩
theorem zFC (g:TbW P G (tbS tb)) (l:∀e∈th,FOK P G e) (u:GPP G):∀{fc:FC} {K:List Nat->Ext->Sta->Option β} {gs:List Nat} {Q:Ext->Sta->Prop} {st:Sta},fcOK fc=true->CPS st->FT U G tb th fc (K gs) st=some r →
  (∀x m,CPS m->K gs x m=some r->Q x m)->WT G (tbS tb) (mkT U G tb th r fc K) gs Q st
 | .skip,K,gs,Q,st,_,s,h,f=>f _ _ s h
 | .ret,K,gs,Q,st,_,s,h,f=>f _ _ s h
 | .exit i,K,gs,Q,st,_,s,h,f=>f _ _ s h
 | .wD y,K,gs,Q,st,d,s,h,f=>by
  obtain ⟨m,w,v,z⟩:=zJM g l u (λ o D=>QG.1 d o D) s h
  exact z _ (f _ _ v w)
 | .draw Y y R,K,gs,Q,st,d,s,h,f=>by
  simp only [FT] at h;split at h
  ·rename_i F;obtain ⟨m,w,v,z⟩:=zIA (th:=th) g u (λ o D=>QG.1 d o D) s h
   have e:(y.map (toT th)).map TOp.o=y.map FOp.o:=by rw [List.map_map];rfl
   simp only [mkT,WT,e,F];exact z _ (f _ _ v w)
  ·cases h
 | .qO y R,K,gs,Q,st,d,s,h,f=>by
  simp only [FT] at h;split at h
  ·rename_i F;obtain ⟨c,N,w,v,z⟩:=zIB g l u (λ o D=>QG.1 d o D) s h
   simp only [mkT,WT];refine ⟨by rw [zNW,zQc];exact F,_,c,N,w,?_⟩
   rw [Qb];exact f _ _ v z
  ·cases h
 | .seq a b,K,gs,Q,st,d,s,h,f=>by
  simp only [fcOK,QA] at d;refine zFC g l u (fc:=a) (K:=λ gs=>zFB (K gs) (FT U G tb th b (K gs))) d.1 s h λ x m q p=>?_
  cases x with
  | normal=>exact zFC g l u d.2 q p f
  | exit i=>exact f _ _ q p
  | ret=>exact f _ _ q p
 | .cond c a b,K,gs,Q,st,d,s,h,f=>by
  simp only [fcOK,QA] at d;simp only [FT] at h;simp only [mkT,WT];split at h
  ·rename_i J A;rw [A];split at h
   ·rename_i n;have h:=zI4 h;have E:st.fr.get n=some (.bool J):=A;have I:=qq E;simp only [I] at h;unfold brT;cases J with
    | true=>simp only [Br,I];exact zFC g l u d.1 s h f
    | false=>simp only [Br,I];exact zFC g l u d.2 s h f
   ·rename_i B;rcases zKi h with ⟨rfl,h⟩ | ⟨rfl,h⟩
    ·cases c with
     | t n=>exact absurd rfl (B n)
     | _=>exact zFC g l u d.1 s h f
    ·cases c with
     | t n=>exact absurd rfl (B n)
     | _=>exact zFC g l u d.2 s h f
  ·cases h
 | .block i b,K,gs,Q,st,d,s,h,f=>by
  refine zFC g l u (fc:=b) (K:=λ gs=>zKh i (K gs)) d s h λ x m q p=>?_
  cases x with
  | normal=>exact f _ _ q p
  | ret=>exact f _ _ q p
  | exit j=>
   simp only [zKh] at p;simp only [zPS];split at p
   ·rename_i e;simp only [e];exact f _ _ q p
   ·rename_i e;simp only [e];exact f _ _ q p
 | .qA k b,K,gs,Q,st,d,s,h,f=>by
  have key:∀(n:Nat) (st:Sta),CPS st->zGv (FT U G tb th b) (K gs) n st=some r->zMj (λ n Q st=>WT G (tbS tb) (mkT U G tb th r b λ gs=>match gs with
    | n::gs=>zFB (K gs) (zGv (FT U G tb th b) (K gs) n)
    | []=>λ _ _=>none) (n::gs) Q st) Q n st:=by
   intro n
   induction n with
   | zero=>intro st _ h;cases h
   | succ n W=>
    intro st s h;refine zFC g l u (fc:=b) (K:=λ gs=>match gs with
     | n::gs=>zFB (K gs) (zGv (FT U G tb th b) (K gs) n)
     | []=>λ _ _=>none) (gs:=n::gs) d s h λ x m q p=>?_
    cases x with
    | normal=>exact W m q p
    | exit i=>exact f _ _ q p
    | ret=>exact f _ _ q p
  exact key k st s h
 | .loop id c b,K,gs,Q,st,d,s,h,f=>by
  obtain ⟨C,H,V,w,v,z⟩:=zGx s h;refine ⟨⟨U,z _ ⟨v,w⟩⟩,?_⟩
  rintro n C H V ⟨s1,hl⟩
  cases n with
  | zero=>cases hl
  | succ n=>
   refine zFC g l u (fc:=b) (K:=λ gs=>match gs with
    | n::gs=>zPo c (K gs) (zJK (FT U G tb th b) c (K gs) (n-1))
    | []=>λ _ _=>none) (gs:=(n+1)::gs) d s1 hl λ x m q p=>?_
   cases x with
   | normal=>
    obtain ⟨S,H',X,M,T,O⟩:=zGx q p;exact ⟨n,QU n,O _ ⟨T,M⟩⟩
   | exit i=>exact f _ _ q p
   | ret=>exact f _ _ q p
 | .we id c a b,K,gs,Q,st,d,s,h,f=>by
  simp only [fcOK,QA] at d;refine ⟨zFC g l u (fc:=a) (K:=λ gs=>zFB (K gs) (cutO c λ C H V=>FT U G tb th b (K gs) (mkW c C H V))) d.1 s h λ x m q p=>?_,λ C H V L=>zFC g l u d.2 L.1 L.2 f⟩
  cases x with
  | normal=>
   obtain ⟨C,H,V,w,v,z⟩:=zGx q p;exact z _ ⟨v,w⟩
  | exit i=>exact f _ _ q p
  | ret=>exact f _ _ q p
theorem zB9 (g:TbW P G (tbS tb)) (l:∀e∈th,FOK P G e) (q:GPP G):∀{fc:FC} {K:Ext->Sta->Option β} {st:Sta},fcOK fc=true->CPS st->FT U G tb th fc K st=some r->∃x f,CPS f/\K x f=some r
 | .skip,K,st,_,s,h=>⟨_,_,s,h⟩
 | .ret,K,st,_,s,h=>⟨_,_,s,h⟩
 | .exit i,K,st,_,s,h=>⟨_,_,s,h⟩
 | .wD y,K,st,d,s,h=>by
  obtain ⟨f,u,t,A⟩:=zJM g l q (λ o w=>QG.1 d o w) s h
  exact ⟨_,_,t,u⟩
 | .draw O y F,K,st,d,s,h=>by
  simp only [FT] at h;split at h
  ·obtain ⟨f,u,t,A⟩:=zIA (th:=th) g q (λ o w=>QG.1 d o w) s h
   exact ⟨_,_,t,u⟩
  ·cases h
 | .qO y F,K,st,d,s,h=>by
  simp only [FT] at h;split at h
  ·obtain ⟨c,N,u,t,A⟩:=zIB (th:=th) g l q (λ o w=>QG.1 d o w) s h
   exact ⟨_,_,t,A⟩
  ·cases h
 | .seq a b,K,st,d,s,h=>by
  simp only [fcOK,QA] at d;obtain ⟨x,f,p,m⟩:=zB9 g l q (fc:=a) d.1 s h;cases x with
  | normal=>exact zB9 g l q d.2 p m
  | exit i=>exact ⟨_,_,p,m⟩
  | ret=>exact ⟨_,_,p,m⟩
 | .cond c a b,K,st,d,s,h=>by
  simp only [fcOK,QA] at d;simp only [FT] at h;split at h
  ·rename_i D z;split at h
   ·rename_i n;have h:=zI4 h;have I:=qq (show st.fr.get n=some (.bool D) from z)
    simp only [I] at h;cases D with
    | true=>exact zB9 g l q d.1 s h
    | false=>exact zB9 g l q d.2 s h
   ·rcases zKi h with ⟨_,h⟩ | ⟨_,h⟩
    ·exact zB9 g l q d.1 s h
    ·exact zB9 g l q d.2 s h
  ·cases h
 | .block i b,K,st,d,s,h=>by
  obtain ⟨x,f,p,m⟩:=zB9 g l q (fc:=b) d s h;cases x with
  | normal=>exact ⟨_,_,p,m⟩
  | ret=>exact ⟨_,_,p,m⟩
  | exit j=>
   simp only [zKh] at m;split at m
   ·exact ⟨_,_,p,m⟩
   ·exact ⟨_,_,p,m⟩
 | .qA k b,K,st,d,s,h=>by
  have key:∀(n:Nat) (st:Sta),CPS st->zGv (FT U G tb th b) K n st=some r->∃x f,CPS f/\K x f=some r:=by
   intro n
   induction n with
   | zero=>intro st _ h;cases h
   | succ n C=>
    intro st s h;obtain ⟨x,f,p,m⟩:=zB9 g l q (fc:=b) d s h;cases x with
    | normal=>exact C f p m
    | exit i=>exact ⟨_,_,p,m⟩
    | ret=>exact ⟨_,_,p,m⟩
  exact key k st s h
 | .loop id c b,K,st,d,s,h=>by
  obtain ⟨v,H,V,u,t,_⟩:=zGx s h;have key:∀(n:Nat) v H V,CPS (mkW c v H V)->zJK (FT U G tb th b) c K n v H V=some r->∃x f,CPS f/\K x f=some r:=by
   intro n
   induction n with
   | zero=>intro v H V _ h;cases h
   | succ n C=>
    intro v H V s h;obtain ⟨x,f,p,m⟩:=zB9 g l q (fc:=b) d s h;cases x with
    | normal=>
     obtain ⟨B,M,J,E,L,_⟩:=zGx p m;exact C B M J L E
    | exit i=>exact ⟨_,_,p,m⟩
    | ret=>exact ⟨_,_,p,m⟩
  exact key _ v H V t u
 | .we id c a b,K,st,d,s,h=>by
  simp only [fcOK,QA] at d;obtain ⟨x,f,p,m⟩:=zB9 g l q (fc:=a) d.1 s h;cases x with
  | normal=>
   obtain ⟨v,H,V,u,t,_⟩:=zGx p m;exact zB9 g l q d.2 t u
  | exit i=>exact ⟨_,_,p,m⟩
  | ret=>exact ⟨_,_,p,m⟩
end
end Go.Sy
namespace Go.Sy
structure FFn where
 np:Nat
 nt:Nat
 fc:FC
 res:List XR
def FFn.xf (x:FFn):XF:=⟨x.np,x.nt,ef x.fc,x.res⟩
def valF (U:Nat) (G:Cx) (tb:TbF) (th:TbH) (x:FFn) (args:List AV):Option AV:=match Nat.beq args.length x.np with
 | true=>FT U G tb th x.fc (endV x.res) ⟨qF 0 args,[],[],0,0⟩
 | false=>none
def outG (U:Nat) (G:Cx) (tb:TbF) (th:TbH) (x:FFn) (pn:List Nat) (args:List AV) (H:Heap) (V:Vecs):Option (AV×Heap×Vecs):=match Nat.beq args.length x.np&&pinE (qF 0 args) 0 pn&&Nat.beq pn.length H.length with
 | true=>FT U G tb th x.fc (endO x.res pn) ⟨qF 0 args,H,V,H.length,V.length⟩
 | false=>none
section
variable {P:Program} {U:Nat} {G:Cx} {tb:TbF} {th:TbH} {st:Sta}
theorem FnX.enters {P:Program} {f:Nat} {g:XF} (hx:FnX P f g):Enters P f:=by
 obtain ⟨fn,e,b,a⟩:=hx.ok;unfold zNq at b;obtain ⟨d,c,b⟩:=za b;exact ⟨fn,d,e,c,a⟩
theorem zVn (s:CPS st):∀(d:Nat) {v v':AV},CP st.mv st.m v->zBy st.H st.V d v=some v'->PP v':=by
 intro d
 induction d with
 | zero=>intro v v' _ h;cases h
 | succ d y=>
  intro v v' hc h;have k:∀{l A:List AV},(∀e∈l,CP st.mv st.m e)->zw (zBy st.H st.V d) l=some A->∀e∈A,PP e:=λ I L=>by
   obtain ⟨m1,m2⟩:=zBf L;intro x K;obtain ⟨i,w⟩:=List.getElem?_of_mem K;have n:=(QD.1 w).1;have z:=QE (show i<_ from m1▸n)
   exact y (I _ (QF z)) (m2 i _ x z w)
  cases hc with
  | sym j W=>
   simp only [zBy] at h;split at h
   ·rename_i N;cases h;exact .qp _ _ (s.V _ _ N).2
   ·cases h
  | agg E g=>
   simp only [zBy] at h;split at h
   ·rename_i c;cases h;exact .agg _ (k g c)
   ·cases h
  | qf E g=>
   simp only [zBy] at h;split at h
   ·rename_i c;cases h;exact .qf _ (k g c)
   ·cases h
  | ptr S off O=>
   simp only [zBy] at h;split at h
   ·rename_i D;obtain ⟨_,_,e,o⟩:=s.H.get D;cases e;split at h
    ·rename_i c;cases h;exact .qe _ _ (.agg _ (k o c))
    ·cases h
   ·cases h
  | iface t u J=>
   simp only [zBy] at h;split at h
   ·rename_i c;cases h;exact .iface _ _ (y J c)
   ·cases h
  | func f a b M C=>
   simp only [zBy] at h;split at h
   ·rename_i F;split at h
    ·rename_i B;cases h;exact .func _ _ _ (k M F) (k C B)
    ·cases h
   ·cases h
  | bool b=>cases h;exact .bool _
  | int q m=>cases h;exact .int _ _
  | str s=>cases h;exact .str _
  | ql=>cases h;exact .ql
  | qa=>cases h;exact .qa
  | qj=>cases h;exact .qj
  | qi=>cases h;exact .qi
  | qd=>cases h;exact .qd
  | qe e off p=>cases h;exact .qe _ _ p
  | qp R T p=>cases h;exact .qp _ _ p
  | _=>cases h
theorem zLU (s:CPS st) {rs:List XR} {vs:List AV} (h:ress st.H st.fr rs=some vs):CP st.mv st.m (zCM vs):=zNb (zOi s.fr s.H h)
theorem zOT {a:List XR} {x:Ext} {v:AV} (s:CPS st) (h:endV a x st=some v):PP v/\endP a (λ u=>u=v) x st:=by
 have key:∀{x:Ext},(∀i,x≠.exit i)->(match ress st.H st.fr a with | some c=>zBy st.H st.V 8 (zCM c) | none=>none)=some v->PP v/\endP a (λ u=>u=v) x st:=λ{x} d h=>by
  split at h
  ·rename_i c b;refine ⟨zVn s 8 (zLU s b) h,?_⟩
   unfold endP endW;cases x with
   | exit i=>exact absurd rfl (d i)
   | normal=>simp only [b,h]
   | ret=>simp only [b,h]
  ·cases h
 cases x with
 | exit i=>cases h
 | normal=>exact key (λ i e=>by cases e) h
 | ret=>exact key (λ i e=>by cases e) h
theorem zVo {f:Nat} {x:FFn} (hx:FnX P f x.xf) (c:fcOK x.fc=true) (q:GPP G) (hm:zBe P G) (i:P.follows .mixedOrders=true) (d:TbW P G (tbS tb)) (b:∀e∈th,FOK P G e) {args:List AV} {v:AV} (g:∀a∈args,PP a) (h:valF U G tb th x args=some v):
  Enters P f/\PP v/\∀H nx,FnT P G f args H nx v H nx:=by
 unfold valF at h;split at h
 rotate_left
 ·cases h
 rename_i k;have s:CPS ⟨qF 0 args,[],[],0,0⟩:=⟨zI3 λ a A=>(g a A).cp,λ p g=>(by cases g),λ j B h=>(by cases h),λ p g=>(by cases g)⟩
 obtain ⟨y,n,l,m⟩:=zB9 d b q c s h;have o:=(zOT l m).1;have z:=zFC d b q (K:=λ _=>endV x.res) (gs:=[]) (Q:=endP x.res λ u=>u=v) c s h λ y n l m=>(zOT l m).2
 obtain ⟨w,t⟩:=zWN hx zHW.symm (by rw [zHX];exact c) q hm i d (zGX b) (zb k) g z
 exact ⟨w,o,t⟩
theorem zOU {n:Nat}:∀{H:Heap},outB n H=true->∀p∈H,∃str cs,p.2=.cells str cs/\∀c∈cs,zR2 n c=true
 | [],h,p,a=>by cases a
 | (k,o)::H,h,p,a=>by
  cases o with
  | cells str cs=>
   simp only [outB,QA] at h;rcases QH.1 a with rfl | a
   ·exact ⟨str,cs,rfl,λ c hc=>QG.1 h.1 c hc⟩
   ·exact zOU h.2 p a
  | _=>cases h
theorem zOV:∀{V:Vecs},ownB V=true->∀j vi,V.get j=some vi->vi.qz=true
 | [],h,j,vi,e=>by cases e
 | (k,o)::r,h,j,vi,e=>by
  simp only [ownB,QA] at h;rw [Vecs.qg] at e;split at e
  ·cases e;exact h.1
  ·exact zOV h.2 j vi e
theorem zLV {b:List XR} {pn:List Nat} {x:Ext} {v:AV} {H2:Heap} {V2:Vecs} (s:CPS st) (h:endO b pn x st=some (v,H2,V2)):
  (PP v\/∃j,v=.sym j/\j<V2.length)/\CPW H2 V2/\H2.keys=List.range' 0 pn.length/\outB V2.length H2=true/\ownB V2=true/\endH b pn (λ u H' n=>u=v/\H'=H2/\n=V2) x st:=by
 have key:∀{x:Ext},(∀i,x≠.exit i)->endO b pn x st=some (v,H2,V2)->(PP v\/∃j,v=.sym j/\j<V2.length)/\CPW H2 V2/\H2.keys=List.range' 0 pn.length/\outB V2.length H2=true/\ownB V2=true/\endH b pn (λ u H' n=>u=v/\H'=H2/\n=V2) x st:=by
  intro x w h;have E:endO b pn x st=endO b pn .ret st:=by cases x with | exit i=>exact absurd rfl (w i) | _=>rfl
  have B:∀R,endH b pn R x st=endH b pn R .ret st:=λ R=>by cases x with | exit i=>exact absurd rfl (w i) | _=>rfl
  rw [E] at h;rw [B];unfold endO at h;unfold endH endW;simp only at h ⊢;split at h
  ·rename_i I d;simp only [d];split at h
   ·rename_i f;simp only [f];split at h
    ·rename_i k;obtain ⟨D,H,V,c,y,z,t,A,C,m,l⟩:=zGW s (λ v q=>by cases q) h
     split at c
     ·rename_i a;simp only [QA] at a;simp only [QJ,Prod.mk.injEq] at c;obtain ⟨rfl,rfl,rfl⟩:=c;have p:=k;simp only [Bool.or_eq_false_iff] at k;refine ⟨.inl (zIP 8 (zLU s d) k.1),t,by rw [m,List.length_range],a.1,a.2,?_⟩
      simp only [p];exact l _ ⟨trivial,rfl,rfl⟩
     ·cases c
    ·cases h
   ·rename_i f;simp only [f];split at h
    ·rename_i g;simp only [g];obtain ⟨D,H,V,c,y,z,t,A,C,m,l⟩:=zGW s (λ v q=>by rw [Qc.1 q];exact zLU s d) h
     split at c
     ·rename_i u;split at c
      ·rename_i a;simp only [QA] at a;simp only [QJ,Prod.mk.injEq] at c;obtain ⟨rfl,rfl,rfl⟩:=c;have o:=y u (.head _);refine ⟨.inr ?_,t,by rw [m,List.length_range],a.2.1,a.2.2,l _ ⟨rfl,rfl,rfl⟩⟩
       cases u with
       | sym j=>cases o with | sym _ F=>exact ⟨j,rfl,F⟩
       | _=>cases a.1
      ·cases c
     ·cases c
    ·cases h
  ·cases h
 cases x with
 | exit i=>cases h
 | normal=>exact key (λ i e=>by cases e) h
 | ret=>exact key (λ i e=>by cases e) h
theorem zVp {f:Nat} {x:FFn} {i:List (Nat×Nat)} {pn:List Nat} (hx:FnX P f x.xf) (d:fcOK x.fc=true) (n:(fcN pn x.fc&&!inpl i)=true) (D:GPP G) (hm:zBe P G) (k:P.follows .mixedOrders=true) (g:TbW P G (tbS tb)) (b:∀e∈th,FOK P G e):FOK P G ⟨f,i,outG U G tb th x pn⟩:=by
 have start:∀{args:List AV} {H:Heap} {V:Vecs} {v:AV} {z:Heap} {o:Vecs},(∀a∈args,CP V.length H.length a)->CPW H V->outG U G tb th x pn args H V=some (v,z,o)->args.length=x.np/\pinE (qF 0 args) 0 pn=true/\pn.length=H.length/\CPS ⟨qF 0 args,H,V,H.length,V.length⟩/\FT U G tb th x.fc (endO x.res pn) ⟨qF 0 args,H,V,H.length,V.length⟩=some (v,z,o):=λ hc q h=>by
  unfold outG at h;split at h
  ·rename_i A;simp only [QA] at A;exact ⟨zb A.1.1,A.1.2,zb A.2,q.mk' (zI3 hc),h⟩
  ·cases h
 rw [QA,Bool.not_eq_true'] at n;obtain ⟨L,I⟩:=n;refine ⟨HOK.of I hx.enters λ args H V v z o w M=>?_,λ args H V v z o hc q O M=>?_⟩
 ·obtain ⟨hc,q,O⟩:=w;obtain ⟨W,S,X,C,h⟩:=start hc q M;obtain ⟨y,t,l,s⟩:=zB9 g b D d C h;obtain ⟨q1,N,q3,q4,q5,_⟩:=zLV l s;refine ⟨⟨q1,by rw [q3,O,X],λ p T=>?_,zOV q5⟩,?_⟩
  ·obtain ⟨str,Y,e,J⟩:=zOU q4 p T;refine ⟨str,Y,e,λ c m=>?_⟩
   have B:=J c m;obtain ⟨_,_,R,E⟩:=N.H p T;rw [e] at R;cases R;unfold zR2 at B;split at B
   ·rename_i j;exact .inr ⟨j,rfl,by simpa [Ql] using B⟩
   ·exact .inl (zC3 12 (E c m) B)
  ·have F:=zFC g b D (K:=λ _=>endO x.res pn) (gs:=[]) (Q:=endH x.res pn (λ u H' V'=>u=v/\H'=z/\V'=o)) d C h λ y t l s=>(zLV l s).2.2.2.2.2
   exact (zWp hx zHW.symm (by rw [zHX];exact d) D hm k g (zGX b) (by rw [zKP];exact L) W S F).2
 ·obtain ⟨W,S,X,C,h⟩:=start hc q M;obtain ⟨y,t,l,s⟩:=zB9 g b D d C h;obtain ⟨q1,N,_⟩:=zLV l s;exact λ j vi hj=>N.V j vi hj
structure HFun where
 f:Nat
 grow:List (Nat×Nat)
 pn:List Nat
 x:FFn
structure Grp where
 vs:List (Nat×FFn)
 hs:List HFun
abbrev RV:=Nat->List AV->Option AV
abbrev RH:=Nat->List AV->Heap->Vecs->Option (AV×Heap×Vecs)
def tbV (g:List (Nat×FFn)) (r:RV) (tb:TbF):TbF:=match g with
 | []=>tb
 | p::g=>(p.1,r p.1)::tbV g r tb
def tbO (g:List HFun) (r:RH) (th:TbH):TbH:=match g with
 | []=>th
 | p::g=>⟨p.f,p.grow,r p.f⟩::tbO g r th
def zPp (U:Nat) (G:Cx) (tb:TbF) (th:TbH):List (Nat×FFn)->RV
 | [],_=>λ _=>none
 | p::g,f=>match Nat.beq f p.1 with
  | true=>valF U G tb th p.2
  | false=>zPp U G tb th g f
def zPq (U:Nat) (G:Cx) (tb:TbF) (th:TbH):List HFun->RH
 | [],_=>λ _ _ _=>none
 | p::g,f=>match Nat.beq f p.f with
  | true=>outG U G tb th p.x p.pn
  | false=>zPq U G tb th g f
def recG (U:Nat) (G:Cx) (tb:TbF) (th:TbH) (g:Grp):Nat->RV×RH
 | 0=>(λ _ _=>none,λ _ _ _ _=>none)
 | n+1=>(zPp U G (tbV g.vs (recG U G tb th g n).1 tb) (tbO g.hs (recG U G tb th g n).2 th) g.vs,zPq U G (tbV g.vs (recG U G tb th g n).1 tb) (tbO g.hs (recG U G tb th g n).2 th) g.hs)
def gv (U:Nat) (G:Cx) (tb:TbF) (th:TbH) (g:Grp) (n f:Nat):List AV->Option AV:=(recG U G tb th g n).1 f
def go (U:Nat) (G:Cx) (tb:TbF) (th:TbH) (g:Grp) (n f:Nat):List AV->Heap->Vecs->Option (AV×Heap×Vecs):=(recG U G tb th g n).2 f
structure GrpOK (P:Program) (g:Grp):Prop where
 vs:∀p∈g.vs,FnX P p.1 p.2.xf/\fcOK p.2.fc=true
 hs:∀p∈g.hs,FnX P p.f p.x.xf/\fcOK p.x.fc=true/\(fcN p.pn p.x.fc&&!inpl p.grow)=true
theorem zVq {g:Grp} (k:GrpOK P g) (C:GPP G) (hm:zBe P G) (i:P.follows .mixedOrders=true) (B:TbW P G (tbS tb)) (w:∀e∈th,FOK P G e):∀n,TbW P G (tbS (tbV g.vs (recG U G tb th g n).1 tb))/\∀e∈tbO g.hs (recG U G tb th g n).2 th,FOK P G e:=by
 have mk:∀{r:RV×RH},(∀p∈g.vs,∀args v,(∀a∈args,PP a)->r.1 p.1 args=some v->Enters P p.1/\PP v/\∀H m,FnT P G p.1 args H m v H m)->(∀p∈g.hs,FOK P G ⟨p.f,p.grow,r.2 p.f⟩)->TbW P G (tbS (tbV g.vs r.1 tb))/\∀e∈tbO g.hs r.2 th,FOK P G e:=by
  intro r E D
  constructor
  ·have:∀(l:List (Nat×FFn)),(∀p∈l,p∈g.vs)->TbW P G (tbS (tbV l r.1 tb)):=by
    intro l
    induction l with
    | nil=>intro _;exact B
    | cons p l o=>
     intro d s t;simp only [tbV,tbS,Qd,QH] at t;rcases t with rfl | t
     ·exact λ args v b F=>E p (d p (.head _)) args v b F
     ·exact o (λ q c=>d q (.tail _ c)) s t
   exact this g.vs λ p b=>b
  ·have:∀(l:List HFun),(∀p∈l,p∈g.hs)->∀e∈tbO l r.2 th,FOK P G e:=by
    intro l
    induction l with
    | nil=>intro _;exact w
    | cons p l o=>
     intro d e u;simp only [tbO,QH] at u;rcases u with rfl | u
     ·exact D p (d p (.head _))
     ·exact o (λ q c=>d q (.tail _ c)) e u
   exact this g.hs λ p b=>b
 intro n
 induction n with
 | zero=>
  refine mk (λ p b args v _ h=>by cases h) λ p b=>⟨⟨(k.hs p b).1.enters,λ args H V v z y _ h=>(by cases h)⟩,λ args H V v z y _ _ _ h=>(by cases h)⟩
 | succ n o=>
  obtain ⟨i1,i2⟩:=o;refine mk (λ p b args v x h=>?_) λ p b=>?_
  ·have:∀(l:List (Nat×FFn)),(∀q∈l,q∈g.vs)->zPp U G (tbV g.vs (recG U G tb th g n).1 tb) (tbO g.hs (recG U G tb th g n).2 th) l p.1 args=some v->Enters P p.1/\PP v/\∀H m,FnT P G p.1 args H m v H m:=by
    intro l
    induction l with
    | nil=>intro _ h;cases h
    | cons q l j=>
     intro d h;rw [zPp] at h;cases e:Nat.beq p.1 q.1 with
     | true=>
      rw [e] at h;have e:=zb e;obtain ⟨A,a2⟩:=k.vs q (d q (.head _));rw [e];exact zVo A a2 C hm i i1 i2 x h
     | false=>
      rw [e] at h;exact j (λ q c=>d q (.tail _ c)) h
   exact this g.vs (λ q c=>c) h
  ·have:∀(l:List HFun),(∀q∈l,q∈g.hs)->FOK P G ⟨p.f,p.grow,zPq U G (tbV g.vs (recG U G tb th g n).1 tb) (tbO g.hs (recG U G tb th g n).2 th) l p.f⟩:=by
    intro l
    induction l with
    | nil=>intro _;exact ⟨⟨(k.hs p b).1.enters,λ args H V v z y _ h=>(by cases h)⟩,λ args H V v z y _ _ _ h=>(by cases h)⟩
    | cons q l j=>
     intro d;rw [zPq];cases e:Nat.beq p.f q.f with
     | true=>
      have e:=zb e;obtain ⟨A,a2,a3⟩:=k.hs q (d q (.head _));rw [e];have a4:=(k.hs p b).2.2;rw [QA] at a3 a4;exact zVp A a2 (by rw [QA];exact ⟨a3.1,a4.2⟩) C hm i i1 i2
     | false=>exact j λ q c=>d q (.tail _ c)
   exact this g.hs λ q c=>c
def addV (U:Nat) (G:Cx) (tb:TbF) (th:TbH) (g:Grp) (n:Nat):TbF:=tbV g.vs (gv U G tb th g n) tb
def addO (U:Nat) (G:Cx) (tb:TbF) (th:TbH) (g:Grp) (n:Nat):TbH:=tbO g.hs (go U G tb th g n) th
structure TabOK (P:Program) (G:Cx) (tb:TbF) (th:TbH):Prop where
 v:TbW P G (tbS tb)
 o:∀e∈th,FOK P G e
theorem TabOK.nil:TabOK P G [] []:=⟨λ s a=>(by cases a),λ e b=>(by cases b)⟩
def zCO (P:Program) (G:Cx) (f:Nat) (g:List AV->Option AV):Prop:=∀args v,(∀a∈args,PP a)->g args=some v->Enters P f/\PP v/\∀H b,FnT P G f args H b v H b
theorem TabOK.ext (h:TabOK P G tb th) {f:Nat} {g:List AV->Option AV} (b:zCO P G f g):TabOK P G ((f,g)::tb) th:=⟨λ s a=>by
 simp only [tbS,Qd,QH] at a;rcases a with rfl | a
 ·exact b
 ·exact h.v s a,h.o⟩
theorem GrpOK.nil:GrpOK P ⟨[],[]⟩:=⟨λ p a=>(by cases a),λ p a=>(by cases a)⟩
theorem GrpOK.qk {f:Nat} {x:FFn} {vs:List (Nat×FFn)} {b:List HFun} (d:FnX P f x.xf) (c:fcOK x.fc=true) (h:GrpOK P ⟨vs,b⟩):GrpOK P ⟨(f,x)::vs,b⟩:=⟨λ p a=>by
 rcases QH.1 a with rfl | a
 ·exact ⟨d,c⟩
 ·exact h.vs p a,h.hs⟩
theorem GrpOK.qw {x:HFun} {vs:List (Nat×FFn)} {b:List HFun} (d:FnX P x.f x.x.xf) (c:fcOK x.x.fc=true) (e:(fcN x.pn x.x.fc&&!inpl x.grow)=true) (h:GrpOK P ⟨vs,b⟩):GrpOK P ⟨vs,x::b⟩:=⟨h.vs,λ p a=>by
 rcases QH.1 a with rfl | a
 ·exact ⟨d,c,e⟩
 ·exact h.hs p a⟩
theorem TabOK.add (h:TabOK P G tb th) {g:Grp} (d:GrpOK P g) (e:GPP G) (hm:zBe P G) (c:P.follows .mixedOrders=true) (n:Nat):TabOK P G (addV U G tb th g n) (addO U G tb th g n):=
 let ⟨a,b⟩:=zVq d e hm c h.v h.o n
 ⟨a,b⟩
end
end Go.Sy
namespace Go.Sy
inductive LA where
 | u (k:Nat)
 | c (id:Nat) (c:Cut)
 | q
 | d (pn:List Nat)
structure An where
 ka:List (Nat×List K)
 ha:List (Nat×List D)
 cv:Option (List D)
 sj:List (Nat×Nat×Cut)
 lp:List LA
def lkA {α:Type}:List (Nat×α)->Nat->Option α
 | [],_=>none
 | p::r,n=>match Nat.beq n p.1 with
  | true=>some p.2
  | false=>lkA r n
def anOp (A:An) (o:XOper):FOp:=⟨o,match o.dst with
 | some d=>match lkA A.ka d with
  | some k=>k
  | none=>[]
 | none=>match o.op with
  | .store (.t a) _ _=>match lkA A.ka (10000+a) with
   | some k=>k
   | none=>[]
  | _=>[],match o.op with
 | .call f _=>lkA A.ha f
 | .qL _ _=>match o.dst with
  | some d=>match lkA A.ha (5000000+d) with
   | some k=>some k
   | none=>A.cv
  | none=>A.cv
 | .q9 _ _ _=>lkA A.ha 1000000
 | .vt _=>match o.dst with
  | some d=>lkA A.ha (2000000+d)
  | none=>none
 | _=>none⟩
def nthA {α:Type}:List α->Nat->Option α
 | [],_=>none
 | a::_,0=>some a
 | _::r,n+1=>nthA r n
def an (A:An):XC->Nat->Nat->FC×Nat×Nat
 | .skip,s,l=>(.skip,s,l)
 | .ret,s,l=>(.ret,s,l)
 | .exit i,s,l=>(.exit i,s,l)
 | .wD e,s,l=>(.wD (e.map (anOp A)),s,l)
 | .draw e m,s,l=>(match nthA A.lp l with
  | some (.d n)=>.draw n (e.map (anOp A)) m
  | _=>.qO (e.map (anOp A)) m,s,l+1)
 | .seq a b,s,l=>match an A a (s+1) l with
  | (a,f,g)=>match an A b f g with
   | (b,h,j)=>(match lkA A.sj s with
    | some (id,c)=>.we id c a b
    | none=>.seq a b,h,j)
 | .cond c a b,s,l=>match an A a s l with
  | (a,f,g)=>match an A b f g with
   | (b,h,j)=>(.cond c a b,h,j)
 | .block i b,s,l=>match an A b s l with
  | (b,f,g)=>(.block i b,f,g)
 | .loop b,s,l=>match an A b s (l+1) with
  | (b,f,g)=>(match nthA A.lp l with
   | some (.u k)=>.qA k b
   | some (.c id c)=>.loop id c b
   | _=>.skip,f,g)
 | .wN ..,s,l=>(.skip,s,l)
def mkX (P:Program) (fn:Func) (A:An):FFn:=match zNq P fn with
 | some a=>⟨a.np,a.nt,(an A a.body 0 0).1,a.res⟩
 | none=>⟨0,0,.skip,[]⟩
structure Tb (P:Program) (G:Cx) where
 T:Nat->TbF
 O:Nat->TbH
 T0:Nat->TbF
 O0:Nat->TbH
 g:Grp
 ok:∀U,TabOK P G (T U) (O U)
variable {P:Program} {G:Cx}
def Tb.nil:Tb P G:=⟨λ _=>[],λ _=>[],λ _=>[],λ _=>[],⟨[],[]⟩,λ _=>TabOK.nil⟩
def Tb.add (t:Tb P G) (r:Bool) (g:Grp) (b:GrpOK P g) (c:GPP G) (hm:zBe P G) (a:P.follows .mixedOrders=true):Tb P G:=
 ⟨λ U=>addV U G (t.T U) (t.O U) g (match r with | true=>U | false=>1),λ U=>addO U G (t.T U) (t.O U) g (match r with | true=>U | false=>1),t.T,t.O,g,λ U=>(t.ok U).add b c hm a _⟩
def Tb.ext (t:Tb P G) {f:Nat} {g:List AV->Option AV} (a:zCO P G f g):Tb P G:=
 ⟨λ U=>(f,g)::t.T U,t.O,t.T,t.O,⟨[],[]⟩,λ U=>(t.ok U).ext a⟩
noncomputable def gV (t:Tb P G) (n f:Nat):List AV->Option AV:=gv FUEL G (t.T0 FUEL) (t.O0 FUEL) t.g n f
noncomputable def gO (t:Tb P G) (n f:Nat):List AV->Heap->Vecs->Option (AV×Heap×Vecs):=go FUEL G (t.T0 FUEL) (t.O0 FUEL) t.g n f
noncomputable def fV (t:Tb P G) (d id:Nat) (x:FFn):List Nat->List AV->Heap->Vecs->Option AV:=FTat FUEL G (addV FUEL G (t.T0 FUEL) (t.O0 FUEL) t.g d) (addO FUEL G (t.T0 FUEL) (t.O0 FUEL) t.g d) id x.fc (endV x.res)
noncomputable def fO (t:Tb P G) (d id:Nat) (x:FFn) (pn:List Nat):List Nat->List AV->Heap->Vecs->Option (AV×Heap×Vecs):=FTat FUEL G (addV FUEL G (t.T0 FUEL) (t.O0 FUEL) t.g d) (addO FUEL G (t.T0 FUEL) (t.O0 FUEL) t.g d) id x.fc (endO x.res pn)
end Go.Sy
namespace Go.Sy
def Wp {β:Type} (o:Option β) (P:β->Prop):Prop:=∃x,o=some x/\P x
section
variable {α β:Type} {P Q:β->Prop}
theorem Wp.mk {x:β} (h:P x):Wp (Option.some x) P:=⟨x,rfl,h⟩
theorem zVr {x:β}:Wp (Option.some x) P↔P x:=⟨λ⟨_,e,h⟩=>by cases e;exact h,λ h=>⟨x,rfl,h⟩⟩
theorem zRg:Wp (none:Option β) P↔False:=⟨λ⟨_,e,_⟩=>(by cases e),False.elim⟩
theorem zUy {b:Bool} {x y:Option β}:Wp (br b x y) P↔(b=true->Wp x P)/\(b=false->Wp y P):=by cases b <;> simp [br]
theorem zWO {b:Bool} {x:Option β}:Wp (gd b x) P↔b=true/\Wp x P:=by cases b <;> simp [gd,zRg]
theorem zWP {o:Option α} {f:α->Option β}:Wp (bd o f) P↔Wp o λ a=>Wp (f a) P:=by
 cases o with
 | none=>simp [bd,zRg]
 | some a=>simp [bd,zVr]
theorem Wp.mono {o:Option β} (h:Wp o P) (k:∀x,P x->Q x):Wp o Q:=let ⟨x,e,q⟩:=h;⟨x,e,k x q⟩
theorem Wp.if {b:Bool} {x y:Option β} (c:b=true->Wp x P) (a:b=false->Wp y P):Wp (br b x y) P:=zUy.2 ⟨c,a⟩
theorem Wp.ite {p:Prop} [Decidable p] {x y:Option β} (b:p->Wp x P) (a:¬p->Wp y P):Wp (br (decide p) x y) P:=zUy.2 ⟨λ h=>b (QO h),λ h=>a (Qq h)⟩
theorem Wp.gd {p:Prop} [Decidable p] {x:Option β} (b:p) (a:Wp x P):Wp (gd (decide p) x) P:=zWO.2 ⟨QL b,a⟩
theorem Wp.bd {o:Option α} {R:α->Prop} {f:α->Option β} (h:Wp o R) (k:∀a,R a->Wp (f a) P):Wp (bd o f) P:=zWP.2 (h.mono k)
theorem zVs {x y:Option β}:br true x y=x:=rfl
theorem zT7 {x y:Option β}:br false x y=y:=rfl
end
section
variable {β:Type} {P:β->Prop} {wk:Bool}
end
theorem zT {n:Int} (b:-9223372036854775808<=n) (a:n<=9223372036854775807):wrapx .i64 n=n:=by
 cases n with
 | ofNat m=>
  have:Nat.ble m 9223372036854775807=true:=by rw [Qs];rw [qr] at a;omega
  simp only [wrapx,this,cond]
 | negSucc m=>
  have:Nat.ble m 9223372036854775807=true:=by rw [Qs];omega
  simp only [wrapx,this,cond]
theorem zf {i:Nat} (h:i<9223372036854775807):wrapx .i64 (Int.ofNat i+1)=Int.ofNat (i+1):=zT (by rw [qr];omega) (by rw [qr];omega)
theorem zKl {α:Type} {l:List α} {i:Nat}:ixN l (Int.ofNat i)=l[i]?:=rfl
section
variable {β:Type} {P:β->Prop} {wk:Bool}
theorem Wp.lt {i l:Nat} {x y:Option β} (c:i<l->Wp x P) (b:l<=i->Wp y P):Wp (br (decide (Int.ofNat i<Int.ofNat l)) x y) P:=
 Wp.ite (λ h=>c (Int.ofNat_lt.1 h)) λ h=>b (Nat.le_of_not_lt λ a=>h (Int.ofNat_lt.2 a))
theorem zA4 {α:Type} {l:List α} {i:Nat} (h:i<l.length):ixN l (Int.ofNat i)=some l[i]:=QE h
theorem zWr {s:List Nat} {i:Nat} (h:i<s.length):ldE (s.map λ b=>AV.int .u8 (.ofNat b)) (Int.toNat (Int.ofNat i)) 0 1 false=some (.int .u8 (.ofNat s[i])):=by
 show (match (s.map λ b=>AV.int .u8 (.ofNat b))[i]? with | some e=>part e.cells 0 1 false | none=>none)=_
 rw [Qj,QE h];rfl
theorem zGY {i l:Nat} {x:Option β} (h:i<l) (hx:Wp x P):Wp (Go.Sy.gd (decide (0<=Int.ofNat i/\Int.ofNat i<Int.ofNat l)) x) P:=
 Wp.gd ⟨Qa _,Int.ofNat_lt.2 h⟩ hx
end
theorem zx {n:Nat} (h:n<=9223372036854775807):n<FUEL:=by rw [zDM];omega
theorem zA5 {i:Nat} (a:0<i) (h:i<=9223372036854775807):wrapx .i64 (Int.ofNat i-1)=Int.ofNat (i-1):=by
 rw [zT (by rw [qr];omega) (by rw [qr];omega),qr,qr];omega
end Go.Sy
