/- A LIBRARY: WHAT A FUNCTION'S CODE RECKONS, AS A LEAN FUNCTION, AND THAT ITS WORD IS THE MODEL'S: part 2 of 6. No condition. -/
import Derived.Test.YtfiahaglhiijaaaGreatDoorFxA
import Derived.Laws.Build
import Derived.Lib.Bytealg
import Derived.Deep.LoopGhost
import Derived.Scope
import Derived.ChangeSame
import Derived.ChangeShapes
import Derived.ChangeAt
import Derived.KernelRfl
import Derived.Below
set_option linter.unusedVariables false
set_option linter.unusedSimpArgs false
namespace Go.Sy
section
variable{P:Program}{G:Cx}{E:Env}{w:World}{fr:Fr}{a:Act}{nt:Nat}{H:Heap}{nx:Nat}
theorem zVT{b:Array (Nat×Operand)}:(b.map λ(i,x)=>(i,a.eval x)).toList=b.toList.map λ(i,x)=>(i,a.eval x):=by simp
theorem zSY:∀{l:List Field},(∀f∈l,∃s,zX P f.type=some s)->∃b:JN,(l.mapM λf=>do pure (f.offset,←sizeOf f.type):Sem JN).run P w=.ok b w/\b.length=l.length ∧
  ∀(i:Nat) f,l[i]?=some f->∃s,zX P f.type=some s/\b[i]?=some (f.offset,s)
 |[],_=>⟨[],by simp,rfl,λi f h=>by simp at h⟩
 |f::l,h=>by
  obtain⟨s,e⟩:=h f (.head _);obtain⟨b,h1,k,m⟩:=zSY (l:=l) (λf j=>h f (.tail _ j))
  refine⟨(f.offset,s)::b,?_,by simp[k],λi g c=>?_⟩
  .simp only[List.mapM_cons,Sem.run_bind,zBQ e,Result.andThen_ok,Sem.run_pure,h1]
  .cases i with
   |zero=>simp at c;subst c;exact⟨s,e,rfl⟩
   |succ i=>simpa using m i g (by simpa using c)
theorem zVU{f c:Nat->Option (Nat×Nat)}(h:∀i o s,f i=some (o,s)->c i=some (o,s)):∀{e:List (Nat×Operand)}{b:List (Nat×Nat×XV)},zGf f e=some b->zGf c e=some b
 |[],b,hc=>by simpa[zGf]using hc
 |(i,x)::r,b,hc=>by
  simp only[zGf]at hc⊢;split at hc
  .rename_i off l y s j g k;rw[h _ _ _ j,g,zVU h k];exact hc
  .cases hc
theorem zY5(J:HR E H w)(hf:FrR E w fr a nt)(hg:GR G E w){v:AV}{H':Heap}{aa:Nat}{o:Oper}{af:XO}{call:Sy.Call}(b1:∀c,o.op≠.call c)(hc:zDf P o.op=some af)
  (ao:zH6 E nx aa) (h:xoS G call fr H nx af=some (v,H',aa)):zBU P E H w nx (execOp a.eval o) v H' aa:=by
 have K:∀{x:Operand}{N:XV}{p:AV},zL x=some N->N.ev G fr=some p->VR E w p (a.eval x):=λh1 h2=>zP hf hg h1 h2
 have V:∀{s:Sem Value}{r:Value}{D:World},(execOp a.eval o=do pure (.value (←s)))->s.run P w=.ok r D->(execOp a.eval o).run P w=.ok (.value r) D:=λh1 h2=>by
  rw[h1];simp[h2]
 have uu:∀{s:Sem Unit}{D:World},(execOp a.eval o=do s;pure .skip)->s.run P w=.ok () D->(execOp a.eval o).run P w=.ok .skip D:=λh1 h2=>by
  rw[h1];simp[h2]
 have ba:∀{x:Operand},(o.op=.move x\/o.op=.assign x)->(∃N,zL x=some N/\af=.vA N)->zBU P E H w nx (execOp a.eval o) v H' aa:=by
  rintro x C ⟨N,A,e⟩
  rw[e]at h;simp only[xoS]at h;split at h
  .rename_i p F;cases h;exact .pure J (by rcases C with C|C<;>simp[execOp,C]) (K A F)
  .cases h
 have bb:∀{t:TypeId}{m k x:Operand},(execOp a.eval o=do Instr.mapUpdate t (a.eval m) (a.eval k) (a.eval x);pure .skip) →
   (zi (zL m) λm=>zi (zL k) λk=>zi (zL x) λv=>match P.underlying t with
    |some (.map kt _)=>zi (zTO P kt) λq=>some (XO.wE q.1 q.2 m k v)
    |_=>none)=some af->zBU P E H w nx (execOp a.eval o) v H' aa:=by
  intro t m k x S hc;obtain⟨am,au,hc⟩:=za hc;obtain⟨ak,b5,hc⟩:=za hc;obtain⟨N,A,hc⟩:=za hc;split at hc
  .rename_i kt et B;obtain⟨q,hq,hc⟩:=za hc;cases hc;unfold zTO at hq;obtain⟨ks,bj,hq⟩:=za hq;obtain⟨ag,Y,hq⟩:=za hq;cases hq;simp only[xoS]at h;split at h
   .rename_i hd vk vx hm hk U;split at h
    .cases h
    rename_i be;split at h
    .rename_i es M;split at h
     .rename_i cc b4;cases h;obtain⟨D,r1,r2,r3⟩:=zZX (P:=P) (nx:=nx) J B bj Y (K au hm) (K b5 hk) (K A U) be M b4;exact .vC (s:=Instr.mapUpdate t (a.eval m) (a.eval k) (a.eval x)) ⟨D,r1,r2,r3⟩ λD h=>uu S h
     .cases h
    .cases h
   .cases h
  .cases hc
 cases C:o.op with
 |move x=>rw[C]at hc;obtain⟨N,A,hc⟩:=za hc;cases hc;exact ba (.inl C) ⟨N,A,rfl⟩
 |assign x=>rw[C]at hc;obtain⟨N,A,hc⟩:=za hc;cases hc;exact ba (.inr C) ⟨N,A,rfl⟩
 |pick c x y=>
  rw[C]at hc;obtain⟨ac,bo,hc⟩:=za hc;obtain⟨N,A,hc⟩:=za hc;obtain⟨ay,ar,hc⟩:=za hc;cases hc;simp only[xoS]at h;split at h
  .rename_i hb;split at h
   .rename_i p F;cases h;have I:=(K bo hb).of_bool;exact .pure J (by simp[execOp,C,I,asBool]) (K A F)
   .cases h
  .rename_i hb;split at h
   .rename_i p F;cases h;have I:=(K bo hb).of_bool;exact .pure J (by simp[execOp,C,I,asBool]) (K ar F)
   .cases h
  .cases h
 |alloc e=>
  rw[C]at hc;obtain⟨z,hz,hc⟩:=za hc;cases hc;cases h;exact .qV (zYF (P:=P) J (ao nx (QA _) (by omega)) hz) λr D h=>V (by simp only[execOp,C]) h
 |box e x=>
  rw[C]at hc;obtain⟨N,A,hc⟩:=za hc;obtain⟨s,O,hc⟩:=za hc;cases hc;simp only[xoS]at h;split at h
  .rename_i p F;split at h
   .rename_i cs az;cases h;exact .qV (zbb (P:=P) (e:=e) J (ao nx (QA _) (by omega)) (K A F) az) λr D h=>V (by simp only[execOp,C]) h
   .cases h
  .cases h
 |build t ps=>
  rw[C]at hc;obtain⟨z,hz,hc⟩:=za hc;obtain⟨i,cz,hi,bw,cb,ca,b9,h2,h3⟩:=VR.zero (P:=P) (E:=E) (w:=w) (z:=.bool true) (v:=.bool true) (n:=0) hz;have bk:(zeroValue t).run P w=.ok cz w:=by simp[zeroValue,typeInfo,hi,bw]
  have R:∀{qs:List (Nat×Nat×XV)}{place:Nat->Option (Nat×Nat)},af=.build z qs->zGf place ps.toList=some qs →
    (∀Q,Instr.fill place cz.cells (ps.toList.map λ(i,x)=>(i,a.eval x))=some Q->(Instr.build t (ps.map λ(i,x)=>(i,a.eval x))).run P w=.ok (.agg Q) w)->zBU P E H w nx (execOp a.eval o) v H' aa:=by
   intro qs place I e2 e3;rw[I]at h;simp only[xoS]at h;split at h
   .rename_i cs az;cases h;obtain⟨Q,r1,r2,r3,r4⟩:=zPK hf hg e2 az h2 h3;exact .qo (s:=Instr.build t (ps.map λ(i,x)=>(i,a.eval x))) J ⟨_,e3 _ r1,VR.qN r2 r3⟩ λr D h=>V (by simp only[execOp,C]) h
   .cases h
  split at hc
  .rename_i fs B;split at hc
   .rename_i bn;obtain⟨qs,a6,hc⟩:=za hc;cases hc;obtain⟨pl,p1,p2,p3⟩:=zSY (P:=P) (w:=w) (l:=fs.toList) λf hf=>by
     have:=QD.1 bn f hf;exact Option.isSome_iff_exists.1 this
    have bl:zGf (pl[·]?) ps.toList=some qs:=zVU (λi off sz hi=>by
     obtain⟨f,hf,hi⟩:=za hi;obtain⟨s,O,hi⟩:=za hi;cases hi;obtain⟨s',q1,q2⟩:=p3 i f (by simpa using hf)
     rw[O]at q1;cases q1;exact q2) a6
    refine R rfl bl λQ aq=>?_
    have hm:(fs.mapM λf=>do pure (f.offset,←sizeOf f.type):Sem (Array (Nat×Nat))).run P w=.ok pl.toArray w:=by
     rw[Array.mapM_eq_mapM_toList];simp only[Sem.run_map,p1,Result.andThen_ok]
    simp only[Instr.build,Sem.run_bind,bk,run_underlying B,Result.andThen_ok,hm];rw[zVT];simp only[List.getElem?_toArray];rw[aq];rfl
   .cases hc
  .rename_i n e B;obtain⟨s,O,hc⟩:=za hc;obtain⟨qs,a6,hc⟩:=za hc;cases hc;refine R rfl a6 λQ aq=>?_
   simp only[Instr.build,Sem.run_bind,bk,run_underlying B,Result.andThen_ok,zBQ O];rw[zVT,aq];rfl
  .cases hc
 |buildSlice t n ps=>
  rw[C]at hc;simp only[zDf]at hc;split at hc
  .rename_i e B;obtain⟨s,O,hc⟩:=za hc;obtain⟨z,hz,hc⟩:=za hc;cases s with
   |zero=>cases hc
   |succ s=>
    simp only at hc;split at hc
    .rename_i ab;obtain⟨qs,a6,hc⟩:=za hc;cases hc;simp only[xoS]at h;split at h
     .rename_i cs az;cases h;refine .qV (zXd (P:=P) hf hg J (ao nx (QA _) (by omega)) B O hz (Qv _) (QS ab) a6 az) λr D h=>V (by
       simp only[execOp,C];congr 2;apply Array.ext';simp) h
     .cases h
    .cases hc
  .cases hc
 |insert t m k x=>rw[C]at hc;exact bb (by simp only[execOp,C]) hc
 |mapUpdate t m k x=>rw[C]at hc;exact bb (by simp only[execOp,C]) hc
 |load t x=>
  rw[C]at hc;obtain⟨N,A,hc⟩:=za hc;obtain⟨s,O,hc⟩:=za hc;obtain⟨g,Y,hc⟩:=za hc;cases hc;simp only[xoS]at h;split at h
  .rename_i p F;split at h
   .rename_i u hu;cases h;obtain⟨ad,cv,I,r1,r2⟩:=zT1 (P:=P) J (K A F) O Y hu;refine .qo (s:=Instr.loadAt t (a.eval x)) J ⟨cv,?_,r2⟩ λr D h=>V (by simp only[execOp,C]) h
    rw[I];simp[Instr.loadAt,Instr.sureAddr,r1]
   .cases h
  .cases h
 |store t x y=>
  rw[C]at hc;obtain⟨N,A,hc⟩:=za hc;obtain⟨ay,ar,hc⟩:=za hc;obtain⟨s,O,hc⟩:=za hc;cases hc;simp only[xoS]at h;split at h
  .rename_i hd off p U F;split at h
   .rename_i st cs M;split at h
    .rename_i new bp;split at h
     .rename_i ab;cases h;obtain⟨I,_⟩:=(K A U).wx;obtain⟨D,r1,r2,r3⟩:=zYC (P:=P) J (K ar F) O M bp (QS ab) nx;refine .vC (s:=Instr.storeAt t (a.eval x) (a.eval y)) ⟨D,?_,r2,r3⟩ λD h=>uu (by simp only[execOp,C]) h
      rw[I];simp[Instr.storeAt,Instr.sureAddr,r1]
     .cases h
    .cases h
   .cases h
  .cases h
 |nilCheck x=>
  rw[C]at hc;obtain⟨N,A,hc⟩:=za hc;cases hc;simp only[xoS]at h;split at h
  .rename_i F;cases h;have T:=K A F;have I:=T.wx.1;exact .pure J (by simp only[execOp,C,I];rfl) (I▸T)
  .rename_i F;cases h;have T:=K A F;obtain⟨b,c,u,I,_⟩:=T.wM;exact .pure J (by simp only[execOp,C,I];rfl) (I▸T)
  .rename_i t' v' F;cases h;have T:=K A F;obtain⟨cv,I⟩:∃cv,a.eval x=.iface t' cv:=by
    generalize a.eval x=cx at T;cases T;exact⟨_,rfl⟩
   exact .pure J (by simp only[execOp,C,I];rfl) (I▸T)
  .rename_i F;cases h;have T:=K A F;obtain⟨u1,u2,I⟩:=T.wJ;exact .pure J (by simp only[execOp,C,I];rfl) (I▸T)
  .cases h
 |binOp op t x y u=>rw[C]at hc;exact zcF J hf hg C hc h
 |unOp op t x=>
  rw[C]at hc;obtain⟨N,A,hc⟩:=za hc;cases hc;simp only[xoS]at h;split at h
  .rename_i p F;split at h
   .rename_i r aj;cases h;exact .qo (s:=Op.unary op (a.eval x)) J (zcC (P:=P) (K A F) aj) λr D h=>V (by simp only[execOp,C]) h
   .cases h
  .cases h
 |convert s d x=>rw[C]at hc;exact zbe J hf hg C hc ao h
 |makeInterface t x=>
  rw[C]at hc;obtain⟨N,A,hc⟩:=za hc;have R:af=.wQ t N->P.concrete t=true->zBU P E H w nx (execOp a.eval o) v H' aa:=by
   intro e bm;rw[e]at h;simp only[xoS]at h;split at h
   .rename_i p F;cases h;exact .qo (s:=Instr.makeInterface t (a.eval x)) J ⟨_,run_makeInterface w t _ bm,.iface _ _ _ (K A F)⟩ λr D h=>V (by simp only[execOp,C]) h
   .cases h
  split at hc
  .cases hc
  .rename_i d ae B;cases hc;refine R rfl ?_
   unfold Program.concrete;rw[B];cases d<;>first|rfl|exact absurd rfl (ae _)
  .cases hc
 |makeFunc fn x y=>
  rw[C]at hc;obtain⟨N,A,hc⟩:=za hc;obtain⟨ay,ar,hc⟩:=za hc;cases hc;simp only[xoS]at h;split at h
  .rename_i p q F hq;cases h;have h1:=zGg hf hg A F;have h2:=zGg hf hg ar hq;refine .qo (s:=Instr.makeFunc fn (x.map a.eval) (y.map a.eval)) J ⟨_,rfl,.func fn p q _ _ (by have:=h1.1;simpa using this) (by have:=h2.1;simpa using this) (λi u v hu T=>h1.2 i u v hu (by simpa using T)) (λi u v hu T=>h2.2 i u v hu (by simpa using T))⟩
    λr D h=>V (by simp only[execOp,C]) h
  .cases h
 |makeMap t r=>
  rw[C]at hc;simp only[zDf]at hc;split at hc
  .cases hc;cases h;exact .qV (zYG (P:=P) (t:=t) J (ao nx (QA _) (by omega))) λr D h=>V (by simp only[execOp,C];rfl) h
  .cases hc
 |makeSlice t x y=>
  rw[C]at hc;simp only[zDf]at hc;split at hc
  .rename_i e B;obtain⟨N,A,hc⟩:=za hc;obtain⟨ay,ar,hc⟩:=za hc;obtain⟨s,O,hc⟩:=za hc;obtain⟨n,hn,hc⟩:=za hc;obtain⟨z,hz,hc⟩:=za hc;cases s with
   |zero=>cases hc
   |succ s=>
    cases hc;simp only[xoS]at h;split at h
    .rename_i k1 l k2 c hl b6;split at h
     .rename_i q1;split at h
      .rename_i q2;split at h
       .rename_i q3;cases h;have I:=(K A hl).of_int.1;have e2:=(K ar b6).of_int.1;have:=zWx (P:=P) (kl:=k1) (kc:=k2) J (ao nx (QA _) (by omega)) B O hn hz (Qv _) (QS q1) (QS q2) (QS q3)
        exact .qV (s:=Instr.makeSlice t (a.eval x) (a.eval y)) (by rw[I,e2];exact this) λr D h=>V (by simp only[execOp,C]) h
       .cases h
      .cases h
     .cases h
    .cases h
  .cases hc
 |slice t x lo hi mx=>
  rw[C]at hc;obtain⟨N,A,hc⟩:=za hc;obtain⟨al,bf,hc⟩:=za hc;obtain⟨ah,a1,hc⟩:=za hc;obtain⟨am,au,hc⟩:=za hc;have S:∀r D,(Instr.sliceAt t (a.eval x) (lo.map a.eval) (hi.map a.eval) (mx.map a.eval)).run P w=.ok r D->(execOp a.eval o).run P w=.ok (.value r) D:=λr D h=>V (by simp only[execOp,C]) h
  have bg:∀{m:Option XV},zNu mx=some m->m=none->mx=none:=λh1 h2=>by
   cases mx with
   |none=>rfl
   |some m=>subst h2;simp only[zNu]at h1;split at h1<;>cases h1
  split at hc
  .rename_i B;split at hc
   .cases hc;have bh:=bg au rfl;simp only[xoS]at h;split at h
    .rename_i s l u U hl hh;split at h
     .rename_i t' I;split at h
      .rename_i l' e2;cases h;have:=zZY (P:=P) (w:=w) B (K A U) (zIa hf hg a1 hh) (zIa hf hg bf hl) I e2;rw[bh]at S;exact .qo J this S
      .cases h
     .cases h
    .cases h
   .cases hc
  .rename_i e B;obtain⟨s,O,hc⟩:=za hc;cases s with
   |zero=>cases hc
   |succ s=>
    have R:af=.wv N al ah am (s+1)->(am≠none->ah≠none)->zBU P E H w nx (execOp a.eval o) v H' aa:=by
     intro I bt;rw[I]at h;simp only[xoS]at h;split at h
     .rename_i p l u m U hl hh hm;split at h
      .rename_i r aj;cases h;refine .qo J (zYE (P:=P) (w:=w) B O (Qv _) (K A U) (zIa hf hg a1 hh) (zIa hf hg bf hl) (zIa hf hg au hm) ?_ aj) S
       intro hn b2;refine bt (λe=>hn ?_) ?_
       .rw[bg au e];rfl
       .cases hi with
        |none=>simp only[zNu]at a1;cases a1;rfl
        |some y=>cases b2
      .cases h
     .cases h
    simp only at hc;split at hc
    .cases hc
    .rename_i bz;cases hc;refine R rfl λh1 h2=>?_
     cases am with
     |none=>exact h1 rfl
     |some m=>exact bz m rfl h2
  .rename_i n e B;obtain⟨s,O,hc⟩:=za hc;cases s with
   |zero=>cases hc
   |succ s=>
    simp only at hc;split at hc
    .split at hc
     rotate_left
     .cases hc
     rename_i bu;cases hc;have bh:=bg au rfl;simp only[xoS]at h;split at h
     .rename_i hd off l u U hl hh;split at h
      .rename_i st cs M;split at h
       .rename_i ab;split at h
        .rename_i t' I;split at h
         .rename_i l' e2;cases h;have b8:=QS ab;obtain⟨q1,q2,q3⟩:=zHB (P:=P) (sl:=false) (w:=w) (zIa hf hg a1 hh) (zIa hf hg bf hl) I e2 (QA _) (QA _);obtain⟨e3,hD⟩:=(K A U).wx;obtain⟨c,e',f,hb,cd,b7⟩:=CR.wW (J.obj _ (Heap.qj M));have cg:cs.length<=c.size:=by have:=b7.1;simpa using this
          refine .qo (s:=Instr.sliceAt t (a.eval x) (lo.map a.eval) (hi.map a.eval) (mx.map a.eval)) J ⟨.slice (some (if n=l' then⟨E.ρ hd,off,none⟩else(⟨E.ρ hd,off,none⟩:Addr).add (l'*(s+1)))) (t'-l') (n-l'),?_,?_⟩ S
          .rw[e3,bh];simp[Instr.sliceAt,run_underlying B,Instr.sureAddr,q1,zBQ O]
          .by_cases bq:n=l'
           .rw[if_pos bq];have e5:t'-l'=0:=by omega
            have e6:n-l'=0:=by omega
            rw[e5,e6];exact .we _ _ _ _ _
           .rw[if_neg bq,zCw];have cf:=QS bu;refine .row _ _ _ _ _ _ _ hD (by omega) (by omega) (Qv _) (QA _) (λ_=>rfl) ⟨c,e',f,hb,?_⟩
            have:l'*(s+1)+(n-l')*(s+1)=n*(s+1):=by rw[←Nat.add_mul];congr 1;omega
            omega
         .cases h
        .cases h
       .cases h
      .cases h
     .cases h
    .cases hc
  .cases hc
 |fieldAddr t x i=>
  rw[C]at hc;obtain⟨N,A,hc⟩:=za hc;obtain⟨fs,X,hc⟩:=za hc;obtain⟨f,a8,hc⟩:=za hc;obtain⟨s,O,hc⟩:=za hc;have B:P.underlying t=some (.struct fs):=by
   unfold zSF at X;split at X
   .cases X;assumption
   .cases X
  cases s with
  |zero=>cases hc
  |succ s=>
   cases hc;simp only[xoS]at h;split at h
   .rename_i hd off F;cases h;obtain⟨I,hD⟩:=(K A F).wx;refine .qo (s:=Instr.fieldAt t (a.eval x) i) J ⟨_,by rw[I];exact zSU (P:=P) (w:=w) B a8 O,.ptr _ _ hD⟩ λr D h=>V (by simp only[execOp,C]) h
   .rename_i e off F;cases h;obtain⟨b,c,u,I,q1,q2,q3,q4⟩:=(K A F).wM;refine .qo (s:=Instr.fieldAt t (a.eval x) i) J ⟨_,by rw[I];exact zSU (P:=P) (w:=w) B a8 O,?_⟩ λr D h=>V (by simp only[execOp,C]) h
    rw[Nat.add_assoc];exact .qd e _ b c u q1 q2 q3 q4
   .cases h
 |field t x i=>
  rw[C]at hc;obtain⟨N,A,hc⟩:=za hc;obtain⟨fs,X,hc⟩:=za hc;obtain⟨f,a8,hc⟩:=za hc;obtain⟨s,O,hc⟩:=za hc;obtain⟨g,Y,hc⟩:=za hc;cases hc;have B:P.underlying t=some (.struct fs):=by
   unfold zSF at X;split at X
   .cases X;assumption
   .cases X
  simp only[xoS]at h;split at h
  .rename_i cs F;split at h
   .rename_i r aj;cases h;obtain⟨vs,I,q1,q2⟩:=(K A F).qY;obtain⟨cv,r1,r2⟩:=zT0 (P:=P) q1 q2 O Y aj;refine .qo (s:=Instr.field t (a.eval x) i) J ⟨cv,?_,r2⟩ λr D h=>V (by simp only[execOp,C]) h
    rw[I];simp[Instr.field,run_underlying B,a8,asAgg,r1]
   .cases h
  .cases h
 |indexAddr t x i=>
  rw[C]at hc;obtain⟨N,A,hc⟩:=za hc;obtain⟨ai,W,hc⟩:=za hc;have S:∀r D,(Instr.indexAt t (a.eval x) (a.eval i)).run P w=.ok r D->(execOp a.eval o).run P w=.ok (.value r) D:=λr D h=>V (by simp only[execOp,C]) h
  split at hc
  .rename_i e B;obtain⟨s,O,hc⟩:=za hc;cases s with
   |zero=>cases hc
   |succ s=>
    cases hc;simp only[xoS]at h;split at h
    .rename_i bc es p U F;split at h
     .rename_i bi;split at h
      .rename_i y hy;cases h;exact .qo J (zQ4 (P:=P) B O (K A U) (K W F) (.inl ⟨bc,es,y,rfl,bi,hy,rfl⟩)) S
      .cases h
     .cases h
    .rename_i hd off len bc cp ex p U F;split at h
     .rename_i bi;split at h
      .rename_i y hy;cases h;exact .qo J (zQ4 (P:=P) B O (K A U) (K W F) (.inr ⟨hd,off,len,bc,cp,ex,y,rfl,bi,hy,rfl⟩)) S
      .cases h
     .cases h
    .cases h
  .rename_i n e B;obtain⟨s,O,hc⟩:=za hc;cases s with
   |zero=>cases hc
   |succ s=>
    cases hc;simp only[xoS]at h;split at h
    .rename_i hd off p U F;split at h
     .rename_i j hj;cases h;obtain⟨I,hD⟩:=(K A U).wx;refine .qo (s:=Instr.indexAt t (a.eval x) (a.eval i)) J ⟨_,by rw[I];exact zQ3 (P:=P) B O (K W F) hj,?_⟩ S
      rw[zCw];exact .ptr _ _ hD
     .cases h
    .rename_i e' off p U F;split at h
     .rename_i j hj;cases h;obtain⟨b,c,u,I,q1,q2,q3,q4⟩:=(K A U).wM;refine .qo (s:=Instr.indexAt t (a.eval x) (a.eval i)) J ⟨_,by rw[I];exact zQ3 (P:=P) B O (K W F) hj,?_⟩ S
      rw[zCw,Nat.add_assoc];exact .qd e' _ b c u q1 q2 q3 q4
     .cases h
    .cases h
  .cases hc
 |index t x i=>
  rw[C]at hc;obtain⟨N,A,hc⟩:=za hc;obtain⟨ai,W,hc⟩:=za hc;have S:∀r D,(Instr.index t (a.eval x) (a.eval i)).run P w=.ok r D->(execOp a.eval o).run P w=.ok (.value r) D:=λr D h=>V (by simp only[execOp,C]) h
  split at hc
  .rename_i B;cases hc;simp only[xoS]at h;split at h
   .rename_i s k n U hn;split at h
    .rename_i b hb;cases h;obtain⟨I,_⟩:=(K W hn).of_int;refine .qo (s:=Instr.index t (a.eval x) (a.eval i)) J ?_ S
     rw[I];exact zZZ (P:=P) B (K A U) hb
    .cases h
   .cases h
  .rename_i n e B;obtain⟨s,O,hc⟩:=za hc;obtain⟨g,Y,hc⟩:=za hc;cases hc;simp only[xoS]at h;split at h
   .rename_i cs p U F;split at h
    .rename_i j hj;split at h
     .rename_i r aj;cases h;exact .qo J (zZ0 (P:=P) B O Y (K A U) (K W F) hj aj) S
     .cases h
    .cases h
   .cases h
  .cases hc
 |lookup t x i ok=>
  rw[C]at hc;obtain⟨N,A,hc⟩:=za hc;obtain⟨ai,W,hc⟩:=za hc;split at hc
  .rename_i kt et B;obtain⟨q,hq,hc⟩:=za hc;obtain⟨z,hz,hc⟩:=za hc;cases hc;unfold zTO at hq;obtain⟨ks,bj,hq⟩:=za hq;obtain⟨ag,Y,hq⟩:=za hq;cases hq;simp only[xoS]at h;split at h
   .rename_i m k hm hk;split at h
    .cases h
    rename_i be;have R:=λhh=>zXc (P:=P) (ok:=ok) (v:=v) J B bj Y hz (K A hm) (K W hk) be hh
    have S:∀r D,(Instr.lookup t (a.eval x) (a.eval i) ok).run P w=.ok r D->(execOp a.eval o).run P w=.ok (.value r) D:=λr D h=>V (by simp only[execOp,C]) h
    split at h
    .cases h;exact .qo J (R (.inl ⟨rfl,rfl⟩)) S
    .split at h
     .rename_i es M;split at h
      .rename_i u hu;cases h;exact .qo J (R (.inr ⟨_,es,some u,rfl,M,hu,rfl⟩)) S
      .rename_i hu;cases h;exact .qo J (R (.inr ⟨_,es,none,rfl,M,hu,rfl⟩)) S
      .cases h
     .cases h
    .cases h
   .cases h
  .cases hc
 |range t x=>
  rw[C]at hc;obtain⟨N,A,hc⟩:=za hc;split at hc
  .rename_i B;cases hc;simp only[xoS]at h;split at h
   .rename_i s O;cases h;exact .qV (zZ1 (P:=P) J (ao nx (QA _) (by omega)) (K A O) B) λr D h=>V (by simp only[execOp,C]) h
   .cases h
  .cases hc
 |next it b=>
  rw[C]at hc;cases b with
  |false=>cases hc
  |true=>
   obtain⟨N,A,hc⟩:=za hc;cases hc;simp only[xoS]at h;split at h
   .rename_i hd F;obtain⟨I,hD⟩:=(K A F).wx;have S:∀r D,(Instr.next (.pointer (some ⟨E.ρ hd,0,none⟩)) true o.type).run P w=.ok r D->(execOp a.eval o).run P w=.ok (.value r) D:=λr D h=>V (by simp only[execOp,C,I]) h
    split at h
    .rename_i s pos M;split at h
     .rename_i ab;split at h
      .rename_i aw;split at h
       .rename_i b hb;cases h;exact .qV (zSW (P:=P) J hD M (QS ab) (.inl ⟨by rw[Ql]at aw;exact aw,b,hb,rfl,rfl⟩)) S
       .cases h
      .rename_i aw;cases h;exact .qV (zSW (P:=P) J hD M (QS ab) (.inr ⟨(λhh=>by
        have:Nat.blt pos s.length=true:=by rw[Ql];exact hh
        rw[this]at aw;cases aw),rfl,rfl⟩)) S
     .cases h
    .cases h
   .cases h
 |typeAssert x t u ok=>
  rw[C]at hc;obtain⟨N,A,hc⟩:=za hc;obtain⟨z,hz,hc⟩:=za hc;obtain⟨cz,z1,z2⟩:=zSS (w:=w) hz;have S:∀r D,(Instr.typeAssert (a.eval x) t u ok).run P w=.ok r D->(execOp a.eval o).run P w=.ok (.value r) D:=λr D h=>V (by simp only[execOp,C]) h
  have R:∀d,P.underlying u=some d->(∀ms,d≠.interface ms)->af=.vK N u ok z->zBU P E H w nx (execOp a.eval o) v H' aa:=by
   intro d B ae I;rw[I]at h;simp only[xoS]at h;split at h
   .rename_i t' y F;have T:=K A F;obtain⟨cy,e2,hy⟩:∃cy,a.eval x=.iface t' cy/\VR E w y cy:=by
     generalize a.eval x=cx at T;cases T;exact⟨_,rfl,by assumption⟩
    split at h
    .rename_i a7;have:=zc a7;subst this;cases h;refine .qo (s:=Instr.typeAssert (a.eval x) t t' ok) J ?_ S
     rw[e2];cases ok
     .refine⟨cy,?_,hy⟩
      cases d<;>first|exact absurd rfl (ae _)|simp[Instr.typeAssert,run_underlying B]
     .refine⟨.tuple #[cy,.bool true],?_,zNx hy⟩
      cases d<;>first|exact absurd rfl (ae _)|simp[Instr.typeAssert,run_underlying B]
    .rename_i a7;split at h
     .cases h;have bs:¬t'=u:=λe=>by rw[e,Nat.beq_refl]at a7;cases a7
      refine .qo (s:=Instr.typeAssert (a.eval x) t u true) J ⟨.tuple #[cz,.bool false],?_,zNx z2⟩ S
      rw[e2];cases d<;>first|exact absurd rfl (ae _)|simp[Instr.typeAssert,run_underlying B,bs,z1]
     .cases h
   .rename_i F;have T:=K A F;have e2:a.eval x=.nilIface:=by
     generalize a.eval x=cx at T;cases T;rfl
    split at h
    .cases h;refine .qo (s:=Instr.typeAssert (a.eval x) t u true) J ⟨.tuple #[cz,.bool false],?_,zNx z2⟩ S
     rw[e2];cases d<;>first|exact absurd rfl (ae _)|simp[Instr.typeAssert,run_underlying B,z1]
    .cases h
   .cases h
  split at hc
  .cases hc
  .rename_i d ae B;cases hc;exact R d B (λms e=>ae ms e) rfl
  .cases hc
 |extract t i=>
  rw[C]at hc;obtain⟨N,A,hc⟩:=za hc;cases hc;simp only[xoS]at h;split at h
  .rename_i vs F;split at h
   .rename_i u hu;cases h;obtain⟨us,I,T⟩:=(K A F).vd;obtain⟨cv,r1,r2⟩:=T.getElem? hu;have bv:us[i]?=some cv:=by simpa using r1
    refine .qo (s:=Instr.extract (a.eval t) i) J ⟨cv,?_,r2⟩ λr D h=>V (by simp only[execOp,C]) h
    rw[I];simp[Instr.extract,bv]
   .cases h
  .cases h
 |call c=>exact absurd C (b1 c)
 |_=>rw[C]at hc;cases hc
end
def FnT(P:Program)(G:Cx)(f:FuncId)(args:JE)(H:Heap)(nx:Nat)(v:AV)(H':Heap)(c:Nat):Prop:=
 ∀(E:Env)(w:World)(b:JB),HR E H w->VRs E w args b.toList->GR G E w->zH6 E nx c →
  Calls P f b w λe h=>∃j g,e=.returned j/\HR g H' h/\Tr E H w g H' h nx c/\VR g h v j
def Enters(P:Program)(f:FuncId):Prop:=∃fn b,P.funcs[f]?=some fn/\fn.body=some b/\(fn.name == "runtime.NumGoroutine")=false
def zIb(P:Program)(G:Cx)(call:Sy.Call):Prop:=∀f args H nx v c b,call f args H nx=some (v,c,b)->Enters P f/\nx<=b/\FnT P G f args H nx v c b
def zCa(P:Program)(G:Cx):Prop:=∀t m f,G.uw t m=some f->∀(v:Value)(w:World),(method (P.types.size+Made.depth) t v m).run P w=.ok (f,v) w
theorem zHD{P:Program}{G:Cx}:zIb P G zj:=λ_ _ _ _ _ _ _ h=>by cases h
section
variable{P:Program}{G:Cx}{E:Env}{w:World}{fr:Fr}{a:Act}{nt:Nat}{H:Heap}{nx:Nat}
def OpT(P:Program)(o:Oper)(a:Act)(E:Env)(H:Heap)(w:World)(nx:Nat)(v:AV)(H':Heap)(c:Nat):Prop:=
 ∀(next:Act->World->Prop)(Q:Exit->Act->World->Prop),(∀f e b,HR e H' b->Tr E H w e H' b nx c->VR e b v f->next (a.put o.dst f) b)->o.wp P a w next Q
theorem OpT.va{o:Oper}{v:AV}{H':Heap}{b:Nat}(h:zBU P E H w nx (execOp a.eval o) v H' b):OpT P o a E H w nx v H' b:=by
 intro next Q k;obtain⟨m,e,f,h1,g,j,c|⟨c,l⟩⟩:=h
 .unfold Oper.wp;rw[c];exact k m e f h1 g j
 .unfold Oper.wp;rw[c];subst l;exact k _ e f h1 g j
theorem OpT.vE{o:Oper}{v:AV}{H':Heap}{b:Nat}{f:FuncId}{args:JE}{cargs:JB}(p:HR E H w)(l:GR G E w)(c:zH6 E nx b)(s:VRs E w args cargs.toList)(k:FnT P G f args H nx v H' b)
  (t:(execOp a.eval o).run P w=.ok (.enter f cargs) w):OpT P o a E H w nx v H' b:=by
 intro next Q r;unfold Oper.wp;rw[t];refine(k E w cargs p s l c).mono λe g h=>?_
 obtain⟨m,n,rfl,h1,j,q⟩:=h;exact r m n g h1 j q
theorem zNF{f:FuncId}{args:JB}(h:Enters P f):(callFunc f args).run P w=.ok (.enter f args) w:=by
 obtain⟨fn,b,h1,c,g⟩:=h;have e:¬fn.name = "runtime.NumGoroutine":=by simpa using g
 simp[callFunc,h1,c,e]
theorem zY6(c:UInt8):∀(l:List UInt8)(i:Nat),zTN c.toNat i (l.map UInt8.toNat)=if Lib.indexByte l c=-1 then -1 else Lib.indexByte l c+(i:Int)
 |[],i=>by simp[zTN,Lib.indexByte]
 |a::l,i=>by
  simp only[Qe,zTN,Lib.indexByte];by_cases e:a=c
  .subst e;have:Nat.beq a.toNat a.toNat=true:=Nat.beq_refl _;simp[this]
  .have h1:Nat.beq a.toNat c.toNat=false:=by
    cases h:Nat.beq a.toNat c.toNat with
    |false=>rfl
    |true=>exact absurd (UInt8.toNat_inj.1 (zc h)) e
   have g:(a==c)=false:=by simpa using e
   have m:=Lib.indexByte_ge l c;have f:=zY6 c l (i+1);simp only[h1,g];rw[f];by_cases b:Lib.indexByte l c=-1
   .simp[b]
   .have k:(Lib.indexByte l c==-1)=false:=by simpa using b
    have j:¬(Lib.indexByte l c+1=-1):=by omega
    simp[b,j];omega
theorem zQ7(c:UInt8):∀l:List UInt8,Lib.indexByte l c<l.length\/Lib.indexByte l c=-1
 |[]=>.inr rfl
 |a::l=>by
  simp only[Lib.indexByte,QL];split
  .left;omega
  .split
   .exact .inr rfl
   .rename_i h;have b:¬Lib.indexByte l c=-1:=by simpa using h
    rcases zQ7 c l with h1|h1
    .left;omega
    .exact absurd h1 b
theorem zY7(c:UInt8):∀l:List UInt8,zVG c.toNat (l.map UInt8.toNat)=Lib.countByte l c
 |[]=>rfl
 |a::l=>by
  have b:=zY7 c l;simp only[Qe,zVG,Lib.countByte,List.count_cons]at b⊢;by_cases e:a=c
  .subst e;have:Nat.beq a.toNat a.toNat=true:=Nat.beq_refl _;simp[this,b]
  .have h1:Nat.beq a.toNat c.toNat=false:=by
    cases h:Nat.beq a.toNat c.toNat with
    |false=>rfl
    |true=>exact absurd (UInt8.toNat_inj.1 (zc h)) e
   simp[h1,b,e]
theorem zT7 {fn:Func} (h:fn.name = "internal/bytealg.IndexByteString") (ho:fn.origin = ""):Extern.findNext fn=none/\Extern.find fn=some Extern.BytealgIndexByte.indexByte:=by
 have c:Extern.allGenericRows.lookup "internal/bytealg.IndexByteString"=none:=by kernel_rfl
 have g:Extern.allTypedRows.lookup "internal/bytealg.IndexByteString"=none:=by kernel_rfl
 have e:Extern.allRows.lookup "internal/bytealg.IndexByteString"=some Extern.BytealgIndexByte.indexByte:=by kernel_rfl
 have f:Extern.allNextRows.lookup "internal/bytealg.IndexByteString"=none:=by kernel_rfl
 have b:Extern.allNextRows.lookup ""=none:=by kernel_rfl
 exact⟨by simp only[Extern.findNext,h,ho,f,b];rfl,by simp only[Extern.find,h,c,g,e];rfl⟩
theorem zT8 {fn:Func} (h:fn.name = "internal/bytealg.CountString") (ho:fn.origin = ""):Extern.findNext fn=none/\Extern.find fn=some Extern.BytealgCount.count:=by
 have c:Extern.allGenericRows.lookup "internal/bytealg.CountString"=none:=by kernel_rfl
 have g:Extern.allTypedRows.lookup "internal/bytealg.CountString"=none:=by kernel_rfl
 have e:Extern.allRows.lookup "internal/bytealg.CountString"=some Extern.BytealgCount.count:=by kernel_rfl
 have f:Extern.allNextRows.lookup "internal/bytealg.CountString"=none:=by kernel_rfl
 have b:Extern.allNextRows.lookup ""=none:=by kernel_rfl
 exact⟨by simp only[Extern.findNext,h,ho,f,b];rfl,by simp only[Extern.find,h,c,g,e];rfl⟩
theorem zY8{b:Nat}(h:has .u8 (Int.ofNat b)):((Int.ofNat b).toNat.toUInt8).toNat=b:=by
 have c:(Int.ofNat b)<=255:=h.2;have e:b<=255:=by
  have:(b:Int)<=255:=c;omega
 show(b.toUInt8).toNat=b
 rw[Nat.toUInt8_eq,UInt8.toNat_ofNat'];omega
theorem zXf(Q:HR E H w)(W:FrR E w fr a nt)(T:GR G E w){v:AV}{H':Heap}{C:Nat}{o:Oper}{f:FuncId}{fn:Func}{args:Array Operand}{ts:Array TypeId}{as:List XV}{I:XO}{call:Sy.Call}
  (ho:o.op=.call ⟨.value (.func f),args,ts⟩) (O:P.funcs[f]?=some fn) (S:fn.body=none) (B:zHi args.toList=some as) (hc:zdu fn as=some I) (h:xoS G call fr H nx I=some (v,H',C)):
  zBU P E H w nx (execOp a.eval o) v H' C:=by
 have N:fn.body.isNone=true:=by rw[S];rfl
 unfold zdu at hc;split at hc
 rotate_left
 .cases hc
 rename_i x y k;have k:fn.origin = "":=by simpa using k
 have m:∀{p q:AV}{e:JB->Sem Value},x.ev G fr=some p->y.ev G fr=some q->(fn.name == "runtime.NumGoroutine")=false->Extern.findNext fn=none->Extern.find fn=some e →
   ∃t n,VR E w p t/\VR E w q n/\∀r K,(e #[t,n]).run P w=.ok r K->(execOp a.eval o).run P w=.ok (.value r) K:=by
  intro p q e V U Y h1 R;have F:=zGg W T B (show evs G fr [x,y]=some [p,q] by simp only[evs,V,U])
  obtain⟨t,l1,J,v1,F⟩:=F.of_cons;obtain⟨n,l2,rfl,v2,F⟩:=F.of_cons;rw[F.of_nil]at J;refine⟨t,n,v1,v2,λr K D=>?_⟩
  have ea:args.map a.eval=#[t,n]:=by
   apply Array.ext'
   simpa using J
  simp only[execOp,ho,resolve,Sem.run_bind,ea,Act.eval,Deferred.ofValue,Sem.run_pure,Result.andThen_ok,invoke];have:=run_callFunc_extern (P:=P) O Y N h1 R #[t,n] w;rw[D]at this
  simpa using this
 split at hc
 .rename_i c;have c:fn.name = "internal/bytealg.IndexByteString":=by simpa using c
  cases hc;simp only[xoS]at h;split at h
  .rename_i s b M u;cases h;obtain⟨t,n,v1,v2,D⟩:=m M u (by rw[c];rfl) (zT7 c k).1 (zT7 c k).2
   obtain⟨j,rfl,l,g⟩:=v1.qZ;obtain⟨rfl,z⟩:=v2.of_int;refine .pure Q (D _ _ (Lib.run_indexByteString j _ w)) ?_
   have A:=zY6 ((Int.ofNat b).toNat.toUInt8) j.data.toList 0;rw[zY8 z,l]at A;have J:zTN b 0 s=Lib.indexByte j.data.toList ((Int.ofNat b).toNat.toUInt8):=by
    rw[A];split
    .rename_i h1;exact h1.symm
    .simp
   rw[J];refine .int _ _ ⟨?_,?_⟩
   .have:=Lib.indexByte_ge j.data.toList ((Int.ofNat b).toNat.toUInt8);show(-9223372036854775808:Int)<=_
    omega
   .show _<=(9223372036854775807:Int)
    have X:j.data.toList.length<=9223372036854775807:=by rw[←l]at g;simpa[zh]using g
    rcases zQ7 ((Int.ofNat b).toNat.toUInt8) j.data.toList with h1|h1<;>omega
  .cases h
 .split at hc
  .rename_i c;have c:fn.name = "internal/bytealg.CountString":=by simpa using c
   cases hc;simp only[xoS]at h;split at h
   .rename_i s b M u;cases h;obtain⟨t,n,v1,v2,D⟩:=m M u (by rw[c];rfl) (zT8 c k).1 (zT8 c k).2
    obtain⟨j,rfl,l,g⟩:=v1.qZ;obtain⟨rfl,z⟩:=v2.of_int;refine .pure Q (D _ _ (Lib.run_countString j _ w)) ?_
    have A:=zY7 ((Int.ofNat b).toNat.toUInt8) j.data.toList;rw[zY8 z,l]at A;rw[A];refine .int _ _ ⟨?_,?_⟩
    .show(-9223372036854775808:Int)<=((Lib.countByte j.data.toList ((Int.ofNat b).toNat.toUInt8):Nat):Int)
     omega
    .show((Lib.countByte j.data.toList ((Int.ofNat b).toNat.toUInt8):Nat):Int)<=(9223372036854775807:Int)
     have X:j.data.toList.length<=9223372036854775807:=by rw[←l]at g;simpa[zh]using g
     have:Lib.countByte j.data.toList ((Int.ofNat b).toNat.toUInt8)<=j.data.toList.length:=List.count_le_length;omega
   .cases h
  .cases hc
theorem zbf(J:HR E H w)(I:FrR E w fr a nt)(s:GR G E w)(hm:zCa P G){v:AV}{H':Heap}{l:Nat}{o:Oper}{c:Go.Call}{C:XO}{call:Sy.Call}(p:zIb P G call)(ho:o.op=.call c)(hc:zDf P o.op=some C)
  (B:zH6 E nx l) (h:xoS G call fr H nx C=some (v,H',l)):OpT P o a E H w nx v H' l:=by
 obtain⟨callee,args,ts⟩:=c;rw[ho]at hc;have y:∀{x:Operand}{ax:XV}{as:List XV}{f:Nat}{first k D:JE},callee=.value x->zL x=some ax->zHi args.toList=some as->ax.ev G fr=some (.func (.func f) first k)->evs G fr as=some D →
   call f (first++D++k) H nx=some (v,H',l)->OpT P o a E H w nx v H' l:=by
  intro x ax as f first k D N O e3 e4 e5 e6;subst N;obtain⟨c1,_,c2⟩:=p _ _ _ _ _ _ _ e6;have q:=zP I s O e4;generalize z:a.eval x=cx at q;cases q with
  |func _ _ _ X Y U W rf rc=>
   have j:=zGg I s e3 e5;have h1:VRs E w first X.toList:=⟨by simpa using U,λi x v hx q=>rf i x v hx (by simpa using q)⟩
   have h2:VRs E w k Y.toList:=⟨by simpa using W,λi x v hx q=>rc i x v hx (by simpa using q)⟩
   refine .vE (cargs:=X++args.map a.eval++Y) J s B (by simpa using(h1.append j).append h2) c2 ?_
   simp only[execOp,ho,resolve,Sem.run_bind,z,Deferred.ofValue,Sem.run_pure,Result.andThen_ok,invoke];exact zNF c1
 cases callee with
 |builtin b=>exact .va (zQ6 J I s ho hc B h)
 |value x=>
  have gen:∀{hx:∃ax,zL x=some ax/\∃as,zHi args.toList=some as/\C=.qM ax as},OpT P o a E H w nx v H' l:=by
   rintro ⟨ax,A,as,has,e⟩
   rw[e]at h;simp only[xoS]at h;split at h
   .rename_i fv D T n;unfold zJu at h;split at h
    .exact y rfl A has T n h
    .cases h
   .cases h
  cases x with
  |func f=>
   simp only[zDf]at hc;split at hc
   .rename_i fn Q;split at hc
    .obtain⟨as,has,hc⟩:=za hc;cases hc;simp only[xoS]at h;split at h
     .rename_i D n;exact y (x:=.func f) (ax:=.c (.func (.func f) [] [])) rfl rfl has rfl n (by simpa using h)
     .cases h
    .rename_i V;obtain⟨as,has,hc⟩:=za hc;exact .va (zXf J I s ho Q V has hc h)
   .cases hc
  |tmp t=>
   obtain⟨as,has,hc⟩:=za hc;cases hc;exact gen (hx:=⟨_,rfl,as,has,rfl⟩)
  |const aa=>
   obtain⟨ax,A,hc⟩:=za hc;obtain⟨as,has,hc⟩:=za hc;cases hc;exact gen (hx:=⟨ax,A,as,has,rfl⟩)
  |global g=>
   obtain⟨as,has,hc⟩:=za hc;cases hc;exact gen (hx:=⟨_,rfl,as,has,rfl⟩)
 |invoke r m=>
  obtain⟨ar,M,hc⟩:=za hc;obtain⟨as,has,hc⟩:=za hc;cases hc;simp only[xoS]at h;split at h
  .rename_i t u D K n;split at h
   .rename_i f S;obtain⟨c1,_,c2⟩:=p _ _ _ _ _ _ _ h;have q:=zP I s M K;generalize z:a.eval r=cx at q;cases q with
    |iface _ _ F hu=>
     have j:=zGg I s has n;refine .vE (cargs:=#[F]++args.map a.eval) J s B (by simpa using VRs.cons hu j) c2 ?_
     have R:=hm t m f S F w;simp only[execOp,ho,resolve,Sem.run_bind,z,Sem.run_pure,Result.andThen_ok,invoke];have N:(#[Value.iface t F]++args.map a.eval)[0]?=some (.iface t F):=by
      simp[Array.getElem?_append]
     have O:(#[Value.iface t F]++args.map a.eval).extract 1 (#[Value.iface t F]++args.map a.eval).size=args.map a.eval:=by
      apply Array.ext';simp[List.take_of_length_le]
     simp only[N,O,callMethod,Sem.run_bind,run_program,Result.andThen_ok,R];exact zNF c1
   .cases h
  .cases h
theorem zJI(l:HR E H w)(k:FrR E w fr a nt)(m:GR G E w)(hm:zCa P G){v:AV}{H':Heap}{b:Nat}{o:Oper}{j:XO}{call:Sy.Call}(e:zIb P G call)(hc:zDf P o.op=some j)
  (g:zH6 E nx b) (h:xoS G call fr H nx j=some (v,H',b)):OpT P o a E H w nx v H' b:=by
 by_cases f:∃c,o.op=.call c
 .obtain⟨c,n⟩:=f;exact zbf l k m hm e n hc g h
 .exact .va (zY5 l k m (λc h=>f ⟨c,h⟩) hc g h)
end
def zHl(call:Call):Prop:=∀f args H nx v c b,call f args H nx=some (v,c,b)->nx<=b
theorem zIb.le{P:Program}{G:Cx}{call:Call}(h:zIb P G call):zHl call:=λf args H nx v c b e=>(h f args H nx v c b e).2.1
theorem zZ5{H:Heap}{nx:Nat}{s y:AV}{sz bytes:Nat}{v:AV}{H':Heap}{b:Nat}(h:zFU H nx s y sz bytes=some (v,H',b)):nx<=b:=by
 unfold zFU at h
 repeat' split at h
 all_goals first
  |(cases h;done)
  |(cases h;exact QA _)
  |(cases h;exact Qd _)
theorem zcG{H:Heap}{nx:Nat}{d y:AV}{sz:Nat}{v:AV}{H':Heap}{b:Nat}(h:zSE H nx d y sz=some (v,H',b)):nx<=b:=by
 unfold zSE at h
 repeat' split at h
 all_goals first
  |(cases h;done)
  |(cases h;exact QA _)
set_option maxHeartbeats 1000000 in
theorem zZ6{G:Cx}{call:Call}{fr:Fr}{H:Heap}{nx:Nat}{o:XO}{v:AV}{H':Heap}{b:Nat}(hc:zHl call)(h:xoS G call fr H nx o=some (v,H',b)):nx<=b:=by
 cases o<;>simp only[xoS]at h
 all_goals (repeat' split at h)
 all_goals first
  |(cases h;done)
  |(cases h;exact QA _)
  |(cases h;exact Qd _)
  |exact zZ5 h
  |exact zcG h
  |exact hc _ _ _ _ _ _ _ h
  |(unfold zJu at h;split at h<;>first|exact hc _ _ _ _ _ _ _ h|(cases h;done))
theorem zY9{G:Cx}{call:Call}{fr:Fr}{H:Heap}{nx:Nat}{o:XO}{v:AV}{H':Heap}{b:Nat}(hk:zAn o=1)(h:xoS G call fr H nx o=some (v,H',b)):H'=H/\b=nx:=by
 cases o<;>first|(cases hk;done)|skip
 all_goals simp only[xoS]at h
 all_goals (repeat' split at h)
 all_goals first
  |(cases h;done)
  |(cases h;exact⟨rfl,rfl⟩)
theorem zT9{f:AV->AV->Bool}(c:∀a b,f a b=true->a=b):∀{x y:JE},zOg f x y=true->x=y
 |[],[],_=>rfl
 |a::x,b::y,h=>by
  simp only[zOg]at h;split at h
  .rename_i e;rw[c a b e,zT9 c h]
  .cases h
 |[],_::_,h=>by simp[zOg]at h
 |_::_,[],h=>by simp[zOg]at h
theorem zVV:∀(d:Nat)(a b:AV),wF d a b=true->a=b:=by
 intro d
 induction d with
 |zero=>intro a b h;simp[wF]at h
 |succ d f=>
  intro a b h;have c:∀{x y:JE},zOg (wF d) x y=true->x=y:=zT9 f;unfold wF at h;split at h
  case h_2=>
   split at h
   .rename_i e;have:=zJF e;have h:=eq_of_beq h;subst this;subst h;rfl
   .cases h
  case h_3=>rw[zLq h]
  all_goals first
   |(cases h;done)
   |rfl
   |(simp only[qr,beq_iff_eq]at h)
   |skip
  .rw[h]
  .rw[zc h.1,zc h.2]
  .rw[f _ _ h.1,zc h.2]
  .rw[zc h.1,c h.2]
  .obtain⟨⟨⟨⟨⟨h1,j⟩,m⟩,k⟩,l⟩,g⟩:=h;rw[zc h1,zc j,zc m,zc k,zc l,g]
  .rw[zc h]
  .rw[zc h.1.1,c h.1.2,c h.2]
  .rw[zc h.1,f _ _ h.2]
  .rw[c h]
  .rw[c h]
  .rw[zc h]
structure vL(E:Env)(H:Heap)(w:World)(E':Env)(H':Heap)(w':World)(N:Nat->Prop):Prop where
 agree:∀h,E.D h->E'.ρ h=E.ρ h
 qz:∀h,E'.D h↔E.D h\/N h
 qF:∀x,E.Z x->E'.Z x
 qP:∀x,E'.Z x->E.Z x\/(∃p∈H,E.ρ p.1=x)\/w.heap.size<=x
 own:∀p∈H',(∃q∈H,E.ρ q.1=E'.ρ p.1)\/w.heap.size<=E'.ρ p.1
 tape:w'.tape=w.tape
 os:w'.os=w.os
 output:w'.output=w.output
 size:w.heap.size<=w'.heap.size
 qI:∀x,x<w.heap.size->(∀p∈H,E.ρ p.1≠x)->w'.heap[x]? = w.heap[x]?
 qn:zA7 w w'
 sig:E'.σ=E.σ:=by rfl
theorem vL.step{E:Env}{H:Heap}{w:World}{n:Env}{l:Heap}{j:World}{E2:Env}{H2:Heap}{r:World}{N m:Nat->Prop}{a b:Nat}
  (h:vL E H w n l j N) (k:Tr n l j E2 H2 r a b) (t:∀h,m h↔N h\/(a<=h/\h<b)):vL E H w E2 H2 r m where
 agree x hx:=(k.agree x ((h.qz x).2 (.inl hx))).trans (h.agree x hx)
 qz x:=by rw[k.qz,h.qz,t,or_assoc]
 qF x hx:=k.qF x (h.qF x hx)
 qP x hx:=by
  rcases k.qP x hx with h1|⟨p,c,rfl⟩|h1
  .exact h.qP x h1
  .exact .inr (h.own p c)
  .exact .inr (.inr (Qj h.size h1))
 own p c:=by
  rcases k.own p c with⟨q,g,e⟩|h1
  .rw[←e];exact h.own q g
  .exact .inr (Qj h.size h1)
 tape:=k.tape.trans h.tape
 os:=k.os.trans h.os
 output:=k.output.trans h.output
 size:=Qj h.size k.size
 qI x hx c:=by
  rw[k.qI x (Qf hx h.size) λp f e=>by
   rcases h.own p f with⟨q,g,s⟩|h1
   .exact c q g (s.trans e)
   .omega]
  exact h.qI x hx c
 qn:=h.qn.trans k.qn
 sig:=k.sig.trans h.sig
theorem vL.vP{E:Env}{H:Heap}{w:World}{E':Env}{H':Heap}{w':World}{a b:Nat}(h:Tr E H w E' H' w' a b){N:Nat->Prop}(c:∀h,N h↔(a<=h/\h<b)):vL E H w E' H' w' N:=
 ⟨h.agree,λx=>by rw[h.qz,c],h.qF,h.qP,h.own,h.tape,h.os,h.output,h.size,h.qI,h.qn,h.sig⟩
theorem vL.uF{E:Env}{H:Heap}{w:World}{E':Env}{H':Heap}{w':World}{a b:Nat}{N:Nat->Prop}(h:vL E H w E' H' w' N)(c:a<=b)(e:∀h,N h↔(a<=h/\h<b)):Tr E H w E' H' w' a b:=
 ⟨c,h.agree,λx=>by rw[h.qz,e],h.qF,h.qP,h.own,h.tape,h.os,h.output,h.size,h.qI,h.qn,h.sig⟩
theorem vL.vr{E:Env}{H:Heap}{w:World}{E':Env}{H':Heap}{w':World}{N:Nat->Prop}(c:HR E H w)(h:vL E H w E' H' w' N){v:AV}{cv:Value}(g:VR E w v cv):VR E' w' v cv:=
 g.mono (λx b=>⟨(h.qz x).2 (.inl b),h.agree x b⟩)
  (λx b=>⟨h.qF x b,h.qI x (c.wa x b) λp f e=>c.nz p f (e▸b)⟩) h.qn h.sig
section
theorem zE6{f g:Nat->Bool}:∀{al:List (Nat×Nat×HO)},(∀x∈al,f x.1=g x.1)->within f al=within g al
 |[],_=>rfl
 |(i,h,o)::r,b=>by
  have h1:f i=g i:=b _ (.head _);simp only[within,h1,zE6 λx c=>b x (.tail _ c)]
theorem zHm{f:Nat->Bool}:∀{a b:List (Nat×Nat×HO)},within f (a++b)=within f a++within f b
 |[],_=>rfl
 |(i,h,o)::r,b=>by
  simp only[List.cons_append,within];split
  .rw[zHm];rfl
  .rw[zHm]
theorem zGh{f:Nat->Bool}:∀{al:List (Nat×Nat×HO)},(∀x∈al,f x.1=false)->within f al=[]
 |[],_=>rfl
 |(i,h,o)::r,b=>by
  have h1:f i=false:=b _ (.head _);simp only[within,h1];exact zGh λx c=>b x (.tail _ c)
theorem zNG{f g:Nat->Bool}:∀{al:List (Nat×Nat×HO)},(∀x∈al,g x.1=true->f x.1=true)->(within f al).Perm (within g al++within (λi=>f i&&!g i) al)
 |[],_=>.refl _
 |(i,h,o)::r,c=>by
  have b:=zNG λx e=>c x (.tail _ e)
  have h1:g i=true->f i=true:=c _ (.head _);simp only[within];cases hf:f i<;>cases hg:g i
  .simpa using b
  .exact absurd (h1 hg) (by simp[hf])
  .simpa using(b.cons (h,o)).trans List.perm_middle.symm
  .simpa using b.cons (h,o)
theorem zKr{mask:Nat}:∀{al:List (Nat×Nat×HO)}{j:Nat},(zDd mask al).testBit j=true↔mask.testBit j=true/\∃x∈al,x.1=j
 |[],j=>by simp[zDd]
 |(i,h,o)::r,j=>by
  simp only[zDd];have c:=zKr (mask:=mask) (al:=r) (j:=j);split
  .rename_i b;rw[Nat.testBit_or,Bool.or_eq_true,Nat.testBit_two_pow,c];simp only[decide_eq_true_eq,QH,exists_eq_or_imp]
   constructor
   .rintro (h|⟨h1,h2⟩)
    .subst h;exact⟨b,.inl rfl⟩
    .exact⟨h1,.inr h2⟩
   .rintro ⟨h1,h|h⟩
    .exact .inl h
    .exact .inr ⟨h1,h⟩
  .rename_i b;rw[c];simp only[QH,exists_eq_or_imp]
   constructor
   .rintro ⟨h1,h2⟩;exact⟨h1,.inr h2⟩
   .rintro ⟨h1,h|h⟩
    .exact absurd h1 (by rw[←h];simp[b])
    .exact⟨h1,h⟩
theorem zTb:∀{ts:JV}{fr:Fr}{t:Nat}{v:AV},(only ts fr).get t=some v->t∈ts/\fr.get t=some v
 |[],_,_,_,h=>by simp[only,Fr.get]at h
 |f::ts,fr,t,v,h=>by
  simp only[only]at h;split at h
  .rename_i u c;simp only[Fr.get]at h;split at h
   .rename_i e;cases h;rw[←zc e];exact⟨.head _,c⟩
   .exact let ⟨a,b⟩:=zTb h;⟨.tail _ a,b⟩
  .exact let ⟨a,b⟩:=zTb h;⟨.tail _ a,b⟩
theorem Fr.qq:∀(fr:Fr)(n:Nat)(v:AV)(t:Nat),(fr.put n v).get t=if n=t then some v else fr.get t
 |[],n,v,t=>by
  simp only[Fr.put,Fr.get];split
  .rename_i e;simp[zc e]
  .rename_i e;simp[zBX e]
 |(k,u)::r,n,v,t=>by
  simp only[Fr.put];split
  .rename_i e;have e:=zc e;subst e;simp only[Fr.get];split
   .rename_i e;simp[zc e]
   .rename_i e;simp[zBX e]
  .rename_i e;simp only[Fr.get,Fr.qq r n v t];split
   .rename_i b;have:=zBX e;have b:=zc b;subst b;rw[if_neg (λh=>this h.symm)]
   .rfl
def scan(L:Nat->Bool)(fr0:Fr)(t:Nat):List (Nat×Option Nat×AV)->JF
 |[]=>fr0.get t
 |(i,d,v)::r=>match L i,d with
  |true,some d=>if d=t then some v else scan L fr0 t r
  |_,_=>scan L fr0 t r
theorem zOs{L:Nat->Bool}{fr0:Fr}{t:Nat}{r:List (Nat×Option Nat×AV)}:∀{nw:List (Nat×Option Nat×AV)},(∀x∈nw,L x.1=true->x.2.1≠some t)->scan L fr0 t (nw++r)=scan L fr0 t r
 |[],_=>rfl
 |(i,d,v)::nw,h=>by
  have b:=zOs (r:=r) (fr0:=fr0) λx f=>h x (.tail _ f)
  have h1:L i=true->d≠some t:=h _ (.head _);simp only[List.cons_append,scan];split
  .rename_i g c;rw[if_neg λe=>h1 c (by rw[e]),b]
  .exact b
theorem zM1{L L':Nat->Bool}{fr0:Fr}{t:Nat}:∀{r:List (Nat×Option Nat×AV)},(∀x∈r,x.2.1=some t->L x.1=L' x.1)->scan L fr0 t r=scan L' fr0 t r
 |[],_=>rfl
 |(i,d,v)::r,h=>by
  have b:=zM1 (fr0:=fr0) λx c=>h x (.tail _ c)
  have h1:d=some t->L i=L' i:=h _ (.head _);simp only[scan];cases d with
  |none=>simpa using b
  |some d=>
   by_cases e:d=t
   .subst e;rw[h1 rfl,b]
   .cases L i<;>cases L' i<;>simp[e,b]
def cur(L:Nat->Bool):JN->List (Heap×Nat)->Option (Heap×Nat)
 |[],x::_=>some x
 |(c,_)::ch,x::ms=>match L c with
  |true=>some x
  |false=>cur L ch ms
 |_,[]=>none
theorem zQ8{L L':Nat->Bool}:∀{ch:JN}{ms:List (Heap×Nat)},(∀c∈ch,L c.1=L' c.1)->cur L ch ms=cur L' ch ms
 |[],[],_=>rfl
 |[],_::_,_=>rfl
 |(c,p)::ch,[],_=>rfl
 |(c,p)::ch,x::ms,h=>by
  have h1:L c=L' c:=h _ (.head _);simp only[cur,h1,zQ8 λx b=>h x (.tail _ b)]
theorem zPL{L:Nat->Bool}{ch:JN}{ms:List (Heap×Nat)}:∀{e:JN}{nm:List (Heap×Nat)},nm.length=e.length->(∀c∈e,L c.1=false)->cur L (e++ch) (nm++ms)=cur L ch ms
 |[],[],_,_=>rfl
 |(c,p)::e,x::nm,b,h=>by
  have h1:L c=false:=h _ (.head _);simp only[List.cons_append,cur,h1];exact zPL (by simpa using b) λx f=>h x (.tail _ f)
 |[],_::_,b,_=>by simp at b
 |_::_,[],b,_=>by simp at b
theorem zXg{L:Nat->Bool}{ch:JN}{x:Heap×Nat}{ms:List (Heap×Nat)}(h:∀c∈ch,L c.1=true):cur L ch (x::ms)=some x:=by
 cases ch with
 |nil=>rfl
 |cons c ch=>
  have h1:L c.1=true:=h _ (.head _);obtain⟨c,p⟩:=c;simp only[cur,h1]
inductive DStep(G:Cx)(call:Call)(i:Nat)(o:XOper)(d:XD)(s:DS):DS->Prop where
 |skip:zDR (only d.looks s.fr) o.guard=some false->DStep G call i o d s { s with fr:=qu s.fr o.dst (.qc []),tr:=(i,o.dst,.qc [])::s.tr }
 |pure (v:AV):zDR (only d.looks s.fr) o.guard=some true->xo G zj (only d.looks s.fr) [] s.nx o.op=some (v,[],s.nx) →
   DStep G call i o d s { s with fr:=qu s.fr o.dst v,tr:=(i,o.dst,v)::s.tr }
 |read (v:AV):zDR (only d.looks s.fr) o.guard=some true->zAn o.op=1 →
   DStep G call i o d s { s with fr:=qu s.fr o.dst v,rd:=⟨i,o.op,only d.looks s.fr,d.qe,v⟩::s.rd,tr:=(i,o.dst,v)::s.tr }
 |alloc (v:AV) (ob:HO):zDR (only d.looks s.fr) o.guard=some true->xo G zj (only d.looks s.fr) [] s.nx o.op=some (v,[(s.nx,ob)],s.nx+1) →
   DStep G call i o d s { s with fr:=qu s.fr o.dst v,nx:=s.nx+1,al:=(i,s.nx,ob)::s.al,tr:=(i,o.dst,v)::s.tr }
 |chain (v:AV) (m:Heap) (inc:Nat) (ms:List (Heap×Nat)) (m':Heap) (n:Nat):zDR (only d.looks s.fr) o.guard=some true->s.ms=(m,inc)::ms →
   (∀c∈s.ch,d.qe.testBit c.1=true)->xo G call (only d.looks s.fr) (within (but d.qe inc) s.al++m) s.nx o.op=some (v,m',n) →
   DStep G call i o d s { s with fr:=qu s.fr o.dst v,nx:=n,ms:=(m',inc ||| zDd d.qe s.al)::s.ms,ch:=(i,d.qe)::s.ch,tr:=(i,o.dst,v)::s.tr }
theorem zYI{G:Cx}{call:Call}{i:Nat}{o:XOper}{d:XD}{s k:DS}(h:zE5 G call i o d s=some k):DStep G call i o d s k:=by
 unfold zE5 at h;simp only at h;split at h
 .rename_i e;cases h;exact .skip e
 .rename_i e;split at h
  .split at h
   .rename_i v n b;split at h
    .rename_i f;cases h;rw[zc f]at b;exact .pure v e b
    .cases h
   .cases h
  .rename_i hk;split at h
   .split at h
    .cases h;exact .read _ e hk
    .cases h
   .cases h
  .split at h
   .rename_i v t p n b;split at h
    .rename_i f;split at h
     .rename_i g;cases h;rw[zc f,zc g]at b;rw[zc f,zc g];exact .alloc v p e b
     .cases h
    .cases h
   .rename_i v n b;split at h
    .rename_i f;cases h;rw[zc f]at b;exact .pure v e b
    .cases h
   .cases h
  .split at h
   .rename_i m inc l j;split at h
    .rename_i hc;split at h
     .rename_i v q n b;cases h;exact .chain v m inc l q n e j (λc r=>QD.1 hc c r) b
     .cases h
    .cases h
   .cases h
 .cases h
theorem zPe{G:Cx}{call:Call}:∀{ops:List XOper}{ds:List XD}{i:Nat}{s b:DS},zDe G call i ops ds s=some b →
  ∃st:Nat->DS,st 0=s/\st ops.length=b/\∀j o,ops[j]?=some o->∃d,ds[j]?=some d/\DStep G call (i+j) o d (st j) (st (j+1))
 |[],ds,i,s,b,h=>by
  simp only[zDe]at h;cases h;exact⟨λ_=>s,rfl,rfl,λj o c=>by simp at c⟩
 |o::r,[],i,s,b,h=>by simp[zDe]at h
 |o::r,d::ds,i,s,b,h=>by
  simp only[zDe]at h;split at h
  .rename_i p h1;obtain⟨st,e,n,g⟩:=zPe h;refine⟨λ|0=>s|j+1=>st j,rfl,by simpa using n,λj m c=>?_⟩
   cases j with
   |zero=>
    simp at c;subst c;exact⟨d,rfl,by show DStep G call (i+0) o d s (st 0);rw[e];exact zYI h1⟩
   |succ j=>
    obtain⟨k,f,l⟩:=g j m (by simpa using c)
    exact⟨k,by simpa using f,by rw[show i+(j+1)=i+1+j by omega];exact l⟩
  .cases h
structure Later(s s':DS)(lo:Nat):Prop where
 ch:∃nc nm,s'.ch=nc++s.ch/\s'.ms=nm++s.ms/\nm.length=nc.length/\∀c∈nc,lo<=c.1/\∀c0∈s.ch,c.2.testBit c0.1=true
 al:∃na,s'.al=na++s.al/\∀x∈na,lo<=x.1
 tr:∃nt,s'.tr=nt++s.tr/\∀x∈nt,lo<=x.1
 rd:∀r∈s.rd,r∈s'.rd
 nx:s.nx<=s'.nx
theorem Later.refl(s:DS)(lo:Nat):Later s s lo:=
 ⟨⟨[],[],rfl,rfl,rfl,λc h=>by simp at h⟩,⟨[],rfl,λc h=>by simp at h⟩,⟨[],rfl,λc h=>by simp at h⟩,λ_ h=>h,QA _⟩
theorem Later.trans{a b c:DS}{lo f:Nat}(h:Later a b lo)(k:Later b c f)(j:lo<=f):Later a c lo:=by
 obtain⟨N,nm,h1,s,J,z⟩:=h.ch;obtain⟨g,n,q,M,y,p⟩:=k.ch;obtain⟨D,B,K⟩:=h.al;obtain⟨m,C,I⟩:=k.al;obtain⟨nt,A,h8⟩:=h.tr;obtain⟨l,v,u⟩:=k.tr;refine⟨⟨g++N,n++nm,by rw[q,h1,Qo],by rw[M,s,Qo],by simp[J,y],λc hc=>?_⟩,
  ⟨m++D,by rw[C,B,Qo],λx e=>?_⟩,⟨l++nt,by rw[v,A,Qo],λx e=>?_⟩,λr F=>k.rd r (h.rd r F),Qj h.nx k.nx⟩
 .rcases QK.1 hc with hc|hc
  .exact⟨Qj j (p c hc).1,λc0 t=>(p c hc).2 c0 (h1▸Qu _ t)⟩
  .exact z c hc
 .rcases QK.1 e with e|e
  .exact Qj j (I x e)
  .exact K x e
 .rcases QK.1 e with e|e
  .exact Qj j (u x e)
  .exact h8 x e
structure Low(s:DS)(i:Nat):Prop where
 ch:∀c∈s.ch,c.1<i
 al:∀c∈s.al,c.1<i
 tr:∀c∈s.tr,c.1<i
theorem DStep.ext{G:Cx}{call:Call}{i:Nat}{o:XOper}{d:XD}{s g:DS}(hc:zHl call)(h:DStep G call i o d s g):Later s g i:=by
 have one:∀(v:AV),∃nt,(i,o.dst,v)::s.tr=nt++s.tr/\∀x∈nt,i<=x.1:=λv=>⟨[(i,o.dst,v)],rfl,λx b=>by simp at b;subst b;exact QA _⟩
 have e:=Later.refl s i;cases h with
 |skip _=>exact{ e with tr:=one _ }
 |pure v _ _=>exact{ e with tr:=one _ }
 |read v _ _=>exact{ e with tr:=one _,rd:=λr l=>.tail _ l }
 |alloc v q _ _=>exact{ e with tr:=one _,al:=⟨[_],rfl,λx b=>by simp at b;subst b;exact QA _⟩,nx:=Qd _ }
 |chain v m inc p t n _ k f b=>
  exact{ e with tr:=one _,ch:=⟨[_],[_],rfl,rfl,rfl,λc j=>by simp at j;subst j;exact⟨QA _,f⟩⟩,nx:=zZ6 hc (zKo.symm.trans b) }
theorem DStep.low{G:Cx}{call:Call}{i:Nat}{o:XOper}{d:XD}{s b:DS}(h:DStep G call i o d s b)(l:Low s i):Low b (i+1):=by
 have up:Low s (i+1):=⟨λc h=>Nat.lt_succ_of_lt (l.ch c h),λc h=>Nat.lt_succ_of_lt (l.al c h),λc h=>Nat.lt_succ_of_lt (l.tr c h)⟩
 have one:∀(v:AV),∀c∈(i,o.dst,v)::s.tr,c.1<i+1:=λv c hc=>by
  rcases QH.1 hc with hc|hc
  .subst hc;exact QX _
  .exact up.tr c hc
 cases h with
 |skip _=>exact{ up with tr:=one _ }
 |pure v _ _=>exact{ up with tr:=one _ }
 |read v _ _=>exact{ up with tr:=one _ }
 |alloc v j _ _=>
  refine{ up with tr:=one _,al:=λc hc=>?_ }
  rcases QH.1 hc with hc|hc
  .subst hc;exact QX _
  .exact up.al c hc
 |chain v m inc g k n _ e f p=>
  refine{ up with tr:=one _,ch:=λc hc=>?_ }
  rcases QH.1 hc with hc|hc
  .subst hc;exact QX _
  .exact up.ch c hc
theorem DStep.word{G:Cx}{call:Call}{i:Nat}{o:XOper}{d:XD}{s b:DS}(h:DStep G call i o d s b):∃v,b.tr=(i,o.dst,v)::s.tr/\b.fr=qu s.fr o.dst v:=by
 cases h<;>exact⟨_,rfl,rfl⟩
end
theorem zDo{P:Program}{ops:Array Oper}{o:Oper}:(zu P ops o).dst=o.dst:=by
 unfold zu;split
 .rfl
 .split<;>rfl
theorem zQE{P:Program}{ops:Array Oper}{o:Oper}(h:o.guard=none):zu P ops o=⟨o.dst,(zDf P o.op).getD .bad,none⟩:=by
 simp[zu,h]
theorem zQF{P:Program}{ops:Array Oper}{o:Oper}{j s:Nat}{b:Bool}(h:o.guard=some (j,b))(c:(ops[j]?).bind (·.dst)=some s):zu P ops o=⟨o.dst,(zDf P o.op).getD .bad,some (s,b)⟩:=by
 simp[zu,h,c]
theorem zQG{P:Program}{ops:Array Oper}{o:Oper}{j:Nat}{b:Bool}(h:o.guard=some (j,b))(c:(ops[j]?).bind (·.dst)=none):zu P ops o=⟨o.dst,.bad,none⟩:=by
 simp[zu,h,c]
theorem zHE{P:Program}{ops:Array Oper}{o:Oper}(h:(zu P ops o).op≠.bad):zDf P o.op=some (zu P ops o).op:=by
 have key:((zDf P o.op).getD .bad)≠.bad->zDf P o.op=some ((zDf P o.op).getD .bad):=λh=>by
  cases hc:zDf P o.op with
  |none=>simp[hc]at h
  |some y=>rfl
 cases hg:o.guard with
 |none=>rw[zQE hg]at *;exact key h
 |some c=>
  obtain⟨j,b⟩:=c;cases hs:(ops[j]?).bind (·.dst)with
  |none=>rw[zQG hg hs]at h;exact absurd rfl h
  |some s=>rw[zQF hg hs]at *;exact key h
theorem zD0{P:Program}{ops:Array Oper}{o:Oper}{E:Env}{w:World}{fr:Fr}{a:Act}{nt:Nat}{b:Bool}(m:FrR E w fr a nt)(h:zDR fr (zu P ops o).guard=some b)
  (k:b=false\/(zu P ops o).op≠.bad):Region.wanted o (yielded ops a.tmps)=b:=by
 cases hg:o.guard with
 |none=>
  rw[zQE hg]at h;simp only[zDR,QN]at h;subst h;simp[Region.wanted,hg]
 |some r=>
  obtain⟨j,f⟩:=r;cases hs:(ops[j]?).bind (·.dst)with
  |some s=>
   rw[zQF hg hs]at h;simp only[zDR]at h;split at h
   .rename_i c hc;have h1:=(m.get s _ hc).of_bool;have n:a.tmps[s]?=some (.bool c):=by
     rw[Array.getD_eq_getD_getElem?]at h1;cases e:a.tmps[s]? with
     |none=>rw[e]at h1;simp[undef]at h1
     |some u=>rw[e]at h1;simpa using h1
    have g:yielded ops a.tmps j=some c:=by simp[yielded,hs,n]
    simp only[Region.wanted,hg,g];simp only[QN]at h;rw[←h];cases c<;>cases f<;>rfl
   .rename_i hc;cases h;have h1:a.tmps.getD s undef=.tuple #[]:=by
     obtain⟨l,q,p⟩:=(m.get s _ hc).vd;have:l=#[]:=by
      have:=p.of_nil;cases l;simp_all
     rw[q,this]
    have g:yielded ops a.tmps j=none:=by
     simp only[yielded,hs,Option.bind_some];rw[Array.getD_eq_getD_getElem?]at h1;cases e:a.tmps[s]? with
     |none=>rfl
     |some u=>rw[e]at h1;simp at h1;subst h1;rfl
    simp[Region.wanted,hg,g]
   .cases h
  |none=>
   rw[zQG hg hs]at h k;simp only[zDR,QN]at h;subst h;simp at k
structure DRun(P:Program)(G:Cx)(call:Call)(ops:Array Oper)(ds:List XD)(st:Nat->DS)(H0:Heap)(fr0:Fr)(nx0 nt:Nat):Prop where
 step:∀(j:Nat)(o:Oper),ops[j]?=some o->∃d,ds[j]?=some d/\DStep G call j (zu P ops o) d (st j) (st (j+1))
 init:st 0=⟨fr0,nx0,[(H0,0)],[],[],[],[]⟩
 apart:∀(j k:Nat)(oj ok:Oper)(dj dk:XD),j<k->ops[j]?=some oj->ops[k]?=some ok->ds[j]?=some dj->ds[k]?=some dk->dk.qe.testBit j=true\/zKp oj.dst dj ok.dst dk=true
 low:∀(j:Nat)(d:XD)(k:Nat),ds[j]?=some d->d.qe.testBit k=true->k<j
 dst:∀(j:Nat)(o:Oper)(d:Nat),ops[j]?=some o->o.dst=some d->d<nt
 reads:∀r∈(st ops.size).rd,zD7 G (st ops.size).al (st ops.size).nx r (st ops.size).ch (st ops.size).ms=true
namespace DRun
variable{P:Program}{G:Cx}{call:Call}{ops:Array Oper}{ds:List XD}{st:Nat->DS}{H0:Heap}{fr0:Fr}{nx0 nt:Nat}
theorem get(_:DRun P G call ops ds st H0 fr0 nx0 nt){j:Nat}(h:j<ops.size):∃o,ops[j]?=some o:=⟨ops[j],Qi h⟩
theorem lows(R:DRun P G call ops ds st H0 fr0 nx0 nt):∀j,j<=ops.size->Low (st j) j
 |0,_=>by rw[R.init];exact⟨λc h=>by simp at h,λc h=>by simp at h,λc h=>by simp at h⟩
 |j+1,b=>by
  obtain⟨o,e⟩:=R.get (j:=j) b;obtain⟨d,_,f⟩:=R.step j o e;exact f.low (R.lows j (Qm b))
theorem later(hc:zHl call)(R:DRun P G call ops ds st H0 fr0 nx0 nt)(i:Nat):∀k,i+k<=ops.size->Later (st i) (st (i+k)) i
 |0,_=>.refl _ _
 |k+1,b=>by
  obtain⟨o,c⟩:=R.get (j:=i+k) b;obtain⟨d,_,e⟩:=R.step _ o c;exact(R.later hc i k (Qm b)).trans (e.ext hc) (Qy _ _)
theorem last(hc:zHl call)(R:DRun P G call ops ds st H0 fr0 nx0 nt){i:Nat}(b:i<=ops.size):Later (st i) (st ops.size) i:=by
 have:=R.later hc i (ops.size-i) (by omega)
 rwa [show i+(ops.size-i)=ops.size by omega]at this
theorem mono(hc:zHl call)(R:DRun P G call ops ds st H0 fr0 nx0 nt){i j:Nat}(b:i<=j)(c:j<=ops.size):(st i).nx<=(st j).nx:=by
 have:=(R.later hc i (j-i) (by omega)).nx
 rwa [show i+(j-i)=j by omega]at this
theorem words(R:DRun P G call ops ds st H0 fr0 nx0 nt):∀j,j<=ops.size->∀x∈(st j).tr,∃o,ops[x.1]?=some o/\x.2.1=o.dst
 |0,_=>by rw[R.init];intro x h;simp at h
 |j+1,f=>by
  obtain⟨o,c⟩:=R.get (j:=j) f;obtain⟨d,_,g⟩:=R.step j o c;obtain⟨v,e,_⟩:=g.word;intro x b;rw[e]at b;rcases QH.1 b with b|b
  .subst b;exact⟨o,c,zDo⟩
  .exact R.words j (Qm f) x b
theorem frames(R:DRun P G call ops ds st H0 fr0 nx0 nt)(t:Nat):∀j,j<=ops.size->scan (λ_=>true) fr0 t (st j).tr=(st j).fr.get t
 |0,_=>by rw[R.init];rfl
 |j+1,b=>by
  obtain⟨o,f⟩:=R.get (j:=j) b;obtain⟨d,_,g⟩:=R.step j o f;obtain⟨v,e,h⟩:=g.word;rw[e,h];have c:=R.frames t j (Qm b);cases hd:(zu P ops o).dst with
  |none=>simpa[scan,qu]using c
  |some s=>simp only[scan,qu,Fr.qq,c]
theorem chains(R:DRun P G call ops ds st H0 fr0 nx0 nt):∀j,j<=ops.size->∀c∈(st j).ch,∃d,ds[c.1]?=some d/\c.2=d.qe
 |0,_=>by rw[R.init];intro x h;simp at h
 |j+1,g=>by
  obtain⟨o,p⟩:=R.get (j:=j) g;obtain⟨d,k,b⟩:=R.step j o p;have e:=R.chains j (Qm g);generalize l:st (j+1)=r at b;generalize f:st j=s at b e;cases b with
  |chain v m inc q t n _ _ _ _=>
   intro c hc;rcases QH.1 hc with hc|hc
   .subst hc;exact⟨d,k,rfl⟩
   .exact e c hc
  |_=>exact e
structure Inv(dl:List Deferred)(st:Nat->DS)(n:Nat)(E0:Env)(H0:Heap)(w0:World)(fr0:Fr)(nt:Nat)(L:Nat->Bool)(E:Env)(w:World)(a:Act):Prop where
 size:a.tmps.size=nt
 defers:a.defers=dl
 fr:∀t v,scan L fr0 t (st n).tr=some v->VR E w v (a.tmps.getD t undef)
 heap:∃m inc,cur L (st n).ch (st n).ms=some (m,inc)/\(∀j,inc.testBit j=true->L j=true)/\HR E (within (λj=>L j&&!inc.testBit j) (st n).al++m) w ∧
  vL E0 H0 w0 E (within (λj=>L j&&!inc.testBit j) (st n).al++m) w λh=>∃j,j<n/\L j=true/\(st j).nx<=h/\h<(st (j+1)).nx
theorem zTc{n:Nat}:∀{l:List Nat},zFL n l=true↔n∈l
 |[]=>by simp[zFL]
 |a::r=>by
  simp only[zFL];split
  .rename_i h;simp[zc h]
  .rename_i h;have:=zBX h;rw[zTc];simp[this]
theorem zOV{x y:Option Nat}{f c:XD}(h:zKp x f y c=true):(∀d,x=some d->d ∉ c.looks)/\(∀d,y=some d->d ∉ f.looks)/\(∀d,x=some d->y≠some d):=by
 simp only[zKp,qr]at h;obtain⟨⟨h1,g⟩,j⟩:=h;refine⟨λd e b=>?_,λd e b=>?_,λd e k=>?_⟩
 .subst e;simp[zTc.2 b]at h1
 .subst e;simp[zTc.2 b]at g
 .subst e;subst k;simp at j
section
variable{dl:List Deferred}{E0 E:Env}{w0 w:World}{a:Act}{L L':Nat->Bool}{i:Nat}{o:Oper}{d:XD}
theorem looked(hc:zHl call)(R:DRun P G call ops ds st H0 fr0 nx0 nt)(ho:ops[i]?=some o)(u:ds[i]?=some d)(y:L i=false)
  (s:∀(k:Nat)(z:XD),L k=true->ds[k]?=some z->∀j,z.qe.testBit j=true->L j=true) (g:∀j,d.qe.testBit j=true->L j=true)
  (f:Inv dl st ops.size E0 H0 w0 fr0 nt L E w a):FrR E w (only d.looks (st i).fr) a nt:=by
 have n:i<ops.size:=(Array.getElem?_eq_some_iff.1 ho).1;refine⟨f.size,λt v B=>?_⟩
 obtain⟨m1,m2⟩:=zTb B;apply f.fr;rw[←m2,←R.frames t i (Qm n)];obtain⟨I,A,C⟩:=(R.last hc (Qm n)).tr;rw[A,zOs]
 .apply zM1;intro x l e;obtain⟨F,h1,q⟩:=R.words i (Qm n) x l;have b:=(R.lows i (Qm n)).tr x l;obtain⟨D,m,_⟩:=R.step _ _ h1;rcases R.apart _ _ _ _ _ _ b h1 ho m u with c|c
  .exact g _ c
  .exact absurd m1 ((zOV c).1 t (by rw[←q];exact e))
 .intro x l r e;obtain⟨F,h1,q⟩:=R.words ops.size (QA _) x (A▸Qx _ l)
  have p:=C x l;have b:i<x.1:=by
   rcases Nat.eq_or_lt_of_le p with h|h
   .rw[←h,y]at r;cases r
   .exact h
  obtain⟨D,m,_⟩:=R.step _ _ h1;rcases R.apart _ _ _ _ _ _ b ho h1 u m with c|c
  .have:=s _ _ r m _ c;rw[y]at this;cases this
  .exact(zOV c).2.1 t (by rw[←q];exact e) m1
theorem behind(hc:zHl call)(R:DRun P G call ops ds st H0 fr0 nx0 nt)(ho:ops[i]?=some o)(D:ds[i]?=some d)(F:L i=false)(c:∀j,L' j=(L j||j==i))
  (y:∀(k:Nat)(z:XD),L k=true->ds[k]?=some z->∀j,z.qe.testBit j=true->L j=true)
  (m:Inv dl st ops.size E0 H0 w0 fr0 nt L E w a) {E':Env} {w':World} {v:AV} {cv:Value} (J:(st (i+1)).tr=(i,(zu P ops o).dst,v)::(st i).tr)
  (g:∀{v cv},VR E w v cv->VR E' w' v cv) (N:VR E' w' v cv):∀t u,scan L' fr0 t (st ops.size).tr=some u->VR E' w' u ((a.put o.dst cv).tmps.getD t undef):=by
 have K:i<ops.size:=(Array.getElem?_eq_some_iff.1 ho).1;intro t u h;by_cases b:o.dst=some t
 .obtain⟨Q,B,I⟩:=(R.last hc (i:=i+1) K).tr;rw[B,zOs,J]at h
  .have h1:L' i=true:=by simp[c]
   rw[zDo,b]at h;simp only[scan,h1,if_true,QN]at h;subst h;have r:t<a.tmps.size:=by rw[m.size];exact R.dst i o t ho b
   simpa[Act.put,b,Array.getElem?_setIfInBounds,r]using N
  .intro x p n f;have C:=I x p;have n:L x.1=true:=by
    rw[c]at n;have:(x.1==i)=false:=by simp;omega
    simpa[this]using n
   obtain⟨O,h1,l⟩:=R.words ops.size (QA _) x (B▸Qx _ p)
   obtain⟨S,A,_⟩:=R.step _ _ h1;rcases R.apart i x.1 _ _ _ _ (by omega) ho h1 D A with s|s
   .have:=y _ _ n A _ s;rw[F]at this;cases this
   .exact(zOV s).2.2 t b (by rw[←l];exact f)
 .rw[zM1 (L':=L)]at h
  .have h1:=g (m.fr t u h);have l:(a.put o.dst cv).tmps.getD t undef=a.tmps.getD t undef:=by
    unfold Act.put;split
    .rename_i M q;have:M≠t:=λe=>b (by rw[q,e])
     simp[Array.getElem?_setIfInBounds_ne this]
    .rfl
   rw[l];exact h1
  .intro x p f;obtain⟨O,h1,l⟩:=R.words ops.size (QA _) x p;rw[c];have:x.1≠i:=λe=>by
    rw[e,ho]at h1;cases h1;exact b (by rw[←l];exact f)
   simp[this]
theorem zdJ(hc:zHl call)(R:DRun P G call ops ds st H0 fr0 nx0 nt)(c:i<ops.size)(h:(st (i+1)).al=(st i).al):∀x∈(st ops.size).al,x.1≠i:=by
 obtain⟨g,e,f⟩:=(R.last hc (i:=i+1) c).al;intro x b;rw[e,h]at b;rcases QK.1 b with b|b
 .have:=f x b;omega
 .have:=(R.lows i (Qm c)).al x b;omega
theorem zdK(hc:zHl call)(R:DRun P G call ops ds st H0 fr0 nx0 nt)(c:i<ops.size)(h:(st (i+1)).ch=(st i).ch):∀x∈(st ops.size).ch,x.1≠i:=by
 obtain⟨g,nm,e,_,_,f⟩:=(R.last hc (i:=i+1) c).ch;intro x b;rw[e,h]at b;rcases QK.1 b with b|b
 .have:=(f x b).1;omega
 .have:=(R.lows i (Qm c)).ch x b;omega
theorem zcH(hc:zHl call)(R:DRun P G call ops ds st H0 fr0 nx0 nt)(c:i<ops.size)(g:L i=false)(b:zH6 E0 nx0 (st ops.size).nx){H:Heap}
  (k:vL E0 H0 w0 E H w λh=>∃j,j<ops.size/\L j=true/\(st j).nx<=h/\h<(st (j+1)).nx):zH6 E (st i).nx (st (i+1)).nx:=by
 intro h h1 p m;rcases(k.qz h).1 m with l|⟨j,f,e,q,r⟩
 .have n:(st 0).nx=nx0:=by rw[R.init]
  have:=R.mono hc (QI i) (Qm c);have:=R.mono hc (i:=i+1) c (QA _);exact b h (by omega) (by omega) l
 .rcases Nat.lt_trichotomy i j with h|h|h
  .have:=R.mono hc (i:=i+1) (j:=j) h (Qm f);omega
  .subst h;rw[g]at e;cases e
  .have:=R.mono hc (i:=j+1) (j:=i) h (Qm c);omega
theorem zen(e:i<ops.size)(c:∀j,L' j=(L j||j==i))(h:Nat):
  (∃j,j<ops.size/\L' j=true/\(st j).nx<=h/\h<(st (j+1)).nx)↔(∃j,j<ops.size/\L j=true/\(st j).nx<=h/\h<(st (j+1)).nx)\/((st i).nx<=h/\h<(st (i+1)).nx):=by
 constructor
 .rintro ⟨j,h1,b,h3⟩
  rw[c,Bool.or_eq_true,beq_iff_eq]at b;rcases b with b|b
  .exact .inl ⟨j,h1,b,h3⟩
  .subst b;exact .inr h3
 .rintro (⟨j,h1,b,h3⟩|h3)
  .exact⟨j,h1,by rw[c,b];rfl,h3⟩
  .exact⟨i,e,by simp[c],h3⟩
theorem zUa{r:DRead}{al:List (Nat×Nat×HO)}{nx:Nat}(l:L r.i=false)(e:∀j,r.qe.testBit j=true->L j=true):
  ∀{ch:List (Nat×Nat)}{ms:List (Heap×Nat)}{m:Heap}{inc:Nat},(∀c∈ch,L c.1=true->∀j,c.2.testBit j=true->L j=true)->zD7 G al nx r ch ms=true->cur L ch ms=some (m,inc)->zGz G al nx r m inc=true
 |[],x::ms,m,inc,_,h,b=>by
  simp only[cur,QN]at b;subst b
  simpa[zD7]using h
 |[],[],m,inc,_,h,b=>by simp[cur]at b
 |c::ch,[],m,inc,_,h,b=>by simp[cur]at b
 |(c,p)::ch,(m0,q)::ms,m,inc,f,h,b=>by
  have h1:L c=true->∀j,p.testBit j=true->L j=true:=f _ (.head _);simp only[cur]at b;simp only[zD7]at h;split at b
  .rename_i k;cases b;split at h
   .exact h
   .split at h
    .rename_i g;have:=h1 k _ g;rw[l]at this;cases this
    .split at h
     .rename_i s;exact s
     .cases h
  .rename_i k;split at h
   .rename_i g;have:=e _ g;rw[k]at this;cases this
   .have n:=λh=>zUa (al:=al) (nx:=nx) (ch:=ch) (ms:=ms) (m:=m) (inc:=inc) l e (λx t=>f x (.tail _ t)) h b
    split at h
    .exact n h
    .split at h
     .exact n h
     .cases h
end
end DRun
end Go.Sy
namespace Go.Sy
namespace DRun
variable{P:Program}{G:Cx}{call:Call}{ops:Array Oper}{ds:List XD}{st:Nat->DS}{H0:Heap}{fr0:Fr}{nx0 nt:Nat}
variable{dl:List Deferred}{E0 E:Env}{w0 w:World}{a:Act}{L L':Nat->Bool}{i:Nat}{o:Oper}{d:XD}
theorem put_defers{a:Act}{d:Option Nat}{v:Value}:(a.put d v).defers=a.defers:=by
 unfold Act.put;split<;>rfl
theorem put_size{a:Act}{d:Option Nat}{v:Value}:(a.put d v).tmps.size=a.tmps.size:=by
 unfold Act.put;split<;>simp
theorem wpOp_of{Q:Exit->Act->World->Prop}{K:Act->World->Prop}(ho:ops[i]?=some o)(b:Region.wanted o (yielded ops a.tmps)=true)(h:o.wp P a w K Q):wpOp P ops Q i K a w:=by
 unfold wpOp;simp only[ho,b,if_true];exact .inl h
theorem wpOp_not{Q:Exit->Act->World->Prop}{K:Act->World->Prop}(ho:ops[i]?=some o)(b:Region.wanted o (yielded ops a.tmps)=false)(h:K (a.put o.dst undef) w):wpOp P ops Q i K a w:=by
 unfold wpOp;simp only[ho,b];exact h
theorem zdL{α:Type}(a b c:List α):(a++b++c).Perm (a++c++b):=by
 rw[Qo,Qo];exact List.perm_append_comm.append_left a
theorem exec(N:zIb P G call)(hm:zCa P G)(R:DRun P G call ops ds st H0 fr0 nx0 nt)(ar:HR E0 H0 w0)(af:GR G E0 w0)(az:zH6 E0 nx0 (st ops.size).nx)
  (ho:ops[i]?=some o) (U:L i=false) (u:∀j,L' j=(L j||j==i))
  (X:∀(k:Nat)(dk:XD),L k=true->ds[k]?=some dk->∀j,dk.qe.testBit j=true->L j=true) (t:∀d,ds[i]?=some d->∀j,d.qe.testBit j=true->L j=true)
  (O:Inv dl st ops.size E0 H0 w0 fr0 nt L E w a) {K:Act->World->Prop} {Q:Exit->Act->World->Prop} (hK:∀E' a' w',Inv dl st ops.size E0 H0 w0 fr0 nt L' E' w' a'->K a' w'):wpOp P ops Q i K a w:=by
 have hc:zHl call:=N.le;have S:i<ops.size:=(Array.getElem?_eq_some_iff.1 ho).1;obtain⟨d,hd,hs⟩:=R.step i o ho;have t:=t d hd;have A:=looked hc R ho hd U X t O;obtain⟨m,inc,D,F,hr,ht⟩:=O.heap;have hg:GR G E w:=λg v hv=>⟨ht.vr ar (af g v hv).1,(af g v hv).2.mono ht.qn⟩
 have T:=zcH hc R S U az ht;have z:∀{j:Nat},L' j=true↔L j=true\/j=i:=λ{j}=>by rw[u];simp
 have close:∀{E':Env}{w':World}{v:AV}{cv:Value}{W:Heap}{y:Nat},(st (i+1)).tr=(i,(zu P ops o).dst,v)::(st i).tr->VR E' w' v cv->cur L' (st ops.size).ch (st ops.size).ms=some (W,y) →
   (∀j,y.testBit j=true->L' j=true)->HR E' (within (λj=>L' j&&!y.testBit j) (st ops.size).al++W) w' →
   Tr E (within (λj=>L j&&!inc.testBit j) (st ops.size).al++m) w E' (within (λj=>L' j&&!y.testBit j) (st ops.size).al++W) w' (st i).nx (st (i+1)).nx->K (a.put o.dst cv) w':=by
  intro E' w' v cv W y hw hv h1 B I h4;refine hK E' _ w' ⟨by rw[put_size];exact O.size,by rw[put_defers];exact O.defers,behind hc R ho hd U u X O hw (h4.vr hr) hv,W,y,h1,B,I,ht.step h4 λh=>zen S u h⟩
 have same:∀{E':Env}{w':World}{v:AV}{cv:Value},(st (i+1)).tr=(i,(zu P ops o).dst,v)::(st i).tr->VR E' w' v cv->(st (i+1)).al=(st i).al->(st (i+1)).ch=(st i).ch->(st (i+1)).nx=(st i).nx →
   HR E' (within (λj=>L j&&!inc.testBit j) (st ops.size).al++m) w' →
   Tr E (within (λj=>L j&&!inc.testBit j) (st ops.size).al++m) w E' (within (λj=>L j&&!inc.testBit j) (st ops.size).al++m) w' (st i).nx (st i).nx->K (a.put o.dst cv) w':=by
  intro E' w' v cv hw hv h1 B I h4 h5;have e1:cur L' (st ops.size).ch (st ops.size).ms=some (m,inc):=by
   rw[←D];refine zQ8 λc s=>?_
   have:=zdK hc R S B c s;rw[u];simp[this]
  have e2:within (λj=>L' j&&!inc.testBit j) (st ops.size).al=within (λj=>L j&&!inc.testBit j) (st ops.size).al:=by
   refine zE6 λx p=>?_
   have:=zdJ hc R S h1 x p;have e:L' x.1=L x.1:=by rw[u];simp[this]
   simp only[e]
  refine close hw hv e1 (λj J=>z.2 (.inl (F j J))) (by rw[e2];exact h4) ?_
  rw[e2,I];exact h5
 obtain⟨nw,ab,ad⟩:=(R.last hc (i:=i+1) S).al;obtain⟨nc,nm,ac,ae,aj,ag⟩:=(R.last hc (i:=i+1) S).ch;have low:=R.lows i (Qm S);generalize l:st (i+1)=s1 at hs;have a1:=l;cases hs with
 |skip q=>
  exact wpOp_not ho (zD0 A q (.inl rfl)) (same (v:=.qc []) (cv:=undef) (by rw[l]) (VR.qK (vs:=#[]) VRs.nil) (by rw[l]) (by rw[l]) (by rw[l]) hr (.refl _))
 |pure v q p=>
  have r:(zu P ops o).op≠.bad:=λe=>by rw[e]at p;simp[xo,zTW]at p
  have aa:HR E ([]++(within (λj=>L j&&!inc.testBit j) (st ops.size).al++m)) w:=hr
  refine wpOp_of ho (zD0 A q (.inr r)) (zJI (hr.sub (List.nil_sublist _)) A hg hm zHD (zHE r) (λh h1 B=>by omega) (zKo.symm.trans p) K Q λcv E' w' h1 B I=>?_)
  obtain⟨f1,f2⟩:=Tr.frame aa h1 B;exact same (v:=v) (by rw[l]) I (by rw[l]) (by rw[l]) (by rw[l]) f1 f2
 |read v q hk=>
  have aw:=R.reads _ ((R.last hc (i:=i+1) S).rd ⟨i,(zu P ops o).op,only d.looks (st i).fr,d.qe,v⟩ (by rw[l];exact .head _))
  have V:=zUa (L:=L) U t (λc s hl j J=>by
   obtain⟨dc,h1,B⟩:=R.chains ops.size (QA _) c s;exact X _ _ hl h1 j (B▸J)) aw D
  unfold zGz at V;split at V
  .rename_i v' H1 n1 p;have:=zfJ V;simp only at this p;subst this;obtain⟨e1,e2⟩:=zY9 hk (zKo.symm.trans p);subst e1;subst e2;have r:(zu P ops o).op≠.bad:=λe=>by rw[e]at hk;cases hk
   have hp:=zNG (f:=λj=>L j&&!inc.testBit j) (g:=but d.qe inc) (al:=(st ops.size).al) λx _ p=>by
    simp only[but,qr]at p;simp only[t _ p.1,p.2,Bool.and_self]
   have C:=(hp.append_right m).trans (zdL _ _ _);have M:=hr.perm C;refine wpOp_of ho (zD0 A q (.inr r)) (zJI (M.sub (List.sublist_append_left _ _)) A hg hm zHD (zHE r) (λh h1 B=>by omega) (zKo.symm.trans p) K Q λcv E' w' h1 B I=>?_)
   obtain⟨f1,f2⟩:=Tr.frame M h1 B;have f3:=f2.perm C.symm C.symm;exact same (v:=v') (by rw[l]) I (by rw[l]) (by rw[l]) (by rw[l]) (f1.perm C.symm) ⟨QA _,f3.agree,λh=>(f3.qz h).trans ⟨Or.imp id λ⟨a,b⟩=>by omega,Or.imp id λ⟨a,b⟩=>by omega⟩,f3.qF,f3.qP,f3.own,f3.tape,f3.os,f3.output,f3.size,f3.qI,f3.qn,f3.sig⟩
  .cases V
 |alloc v ob q p=>
  have r:(zu P ops o).op≠.bad:=λe=>by rw[e]at p;simp[xo,zTW]at p
  have aa:HR E ([]++(within (λj=>L j&&!inc.testBit j) (st ops.size).al++m)) w:=hr
  rw[l]at T;refine wpOp_of ho (zD0 A q (.inr r)) (zJI (hr.sub (List.nil_sublist _)) A hg hm zHD (zHE r) T (zKo.symm.trans p) K Q λcv E' w' h1 B I=>?_)
  obtain⟨f1,f2⟩:=Tr.frame aa h1 B;have e1:cur L' (st ops.size).ch (st ops.size).ms=some (m,inc):=by
   rw[←D];refine zQ8 λc s=>?_
   have:=zdK hc R S (by rw[l]) c s
   rw[u];simp[this]
  have e2:(within (λj=>L' j&&!inc.testBit j) (st ops.size).al).Perm ((((st i).nx,ob))::within (λj=>L j&&!inc.testBit j) (st ops.size).al):=by
   rw[ab,l];simp only[zHm];have g1:within (λj=>L' j&&!inc.testBit j) nw=within (λj=>L j&&!inc.testBit j) nw:=zE6 λx p=>by
    have:x.1≠i:=by have:=ad x p;omega
    have e:L' x.1=L x.1:=by rw[u];simp[this]
    simp only[e]
   have g2:within (λj=>L' j&&!inc.testBit j) (st i).al=within (λj=>L j&&!inc.testBit j) (st i).al:=zE6 λx p=>by
    have:x.1≠i:=by have:=low.al x p;omega
    have e:L' x.1=L x.1:=by rw[u];simp[this]
    simp only[e]
   have g3:inc.testBit i=false:=by
    cases h:inc.testBit i with
    |false=>rfl
    |true=>rw[F i h]at U;cases U
   have g4:L' i=true:=z.2 (.inr rfl);simp only[within,g1,g2,g3,g4,U,Bool.not_false,QV];exact List.perm_middle
  have e3:=e2.append_right m;refine close (v:=v) (by rw[l]) I e1 (λj J=>z.2 (.inl (F j J))) (f1.perm e3.symm) ?_
  rw[l];exact f2.perm (.refl _) e3.symm
 |chain v m0 ak ms W n q ay ax p=>
  have r:(zu P ops o).op≠.bad:=λe=>by rw[e]at p;simp[xo,zTW]at p
  have Y:∀c∈nc,L c.1=false:=λc s=>by
   cases h:L c.1 with
   |false=>rfl
   |true=>
    obtain⟨dc,h1,B⟩:=R.chains ops.size (QA _) c (ac▸Qx _ s)
    have I:=(ag c s).2 (i,d.qe) (by rw[l];exact .head _)
    have h4:=X _ _ h h1 i (B▸I)
    rw[U]at h4;cases h4
  have ai:∀c∈(st i).ch,L c.1=true:=λc s=>t _ (ax c s)
  have ah:some (m,inc)=some (m0,ak):=by
   rw[←D,ac,ae,zPL aj Y,l];simp only[cur,U];rw[ay];exact zXg ai
  cases ah;have e1:cur L' (st ops.size).ch (st ops.size).ms=some (W,inc ||| zDd d.qe (st i).al):=by
   rw[ac,ae,zPL aj λc s=>?_,l]
   .have g4:L' i=true:=z.2 (.inr rfl);simp only[cur,g4]
   .have h1:=(ag c s).1;have:c.1≠i:=by omega
    rw[u,Y c s];simp[this]
  have hp:=zNG (f:=λj=>L j&&!inc.testBit j) (g:=but d.qe inc) (al:=(st ops.size).al) λx _ p=>by
   simp only[but,qr]at p;simp only[t _ p.1,p.2,Bool.and_self]
  have au:within (but d.qe inc) (st ops.size).al=within (but d.qe inc) (st i).al:=by
   rw[ab,l,zHm,zGh,List.nil_append];intro x p;have h1:=ad x p;cases h:but d.qe inc x.1 with
   |false=>rfl
   |true=>
    simp only[but,qr]at h;have:=R.low i d _ hd h.1;omega
  have C:=(hp.append_right m).trans (zdL _ _ _);rw[au]at C;have M:=hr.perm C;rw[l]at T;refine wpOp_of ho (zD0 A q (.inr r)) (zJI (M.sub (List.sublist_append_left _ _)) A hg hm N (zHE r) T (zKo.symm.trans p) K Q λcv E' w' h1 B I=>?_)
  obtain⟨f1,f2⟩:=Tr.frame M h1 B;have e2:within (λj=>L' j&&!(inc ||| zDd d.qe (st i).al).testBit j) (st ops.size).al=within (λj=>(L j&&!inc.testBit j)&&!but d.qe inc j) (st ops.size).al:=by
   refine zE6 λx p=>?_
   have ao:x.1≠i:=zdJ hc R S (by rw[l]) x p
   have aq:(zDd d.qe (st i).al).testBit x.1=d.qe.testBit x.1:=by
    rw[Bool.eq_iff_iff,zKr];refine⟨And.left,λh=>⟨h,?_⟩⟩
    rw[ab,l]at p;rcases QK.1 p with p|p
    .have:=ad x p;have:=R.low i d _ hd h;omega
    .exact⟨x,p,rfl⟩
   have:(x.1==i)=false:=by simp[ao]
   simp only[u,this,Bool.or_false,Nat.testBit_or,aq,but];cases L x.1<;>cases inc.testBit x.1<;>cases d.qe.testBit x.1<;>rfl
  have e3:(W++within (λj=>(L j&&!inc.testBit j)&&!but d.qe inc j) (st ops.size).al).Perm (within (λj=>L' j&&!(inc ||| zDd d.qe (st i).al).testBit j) (st ops.size).al++W):=by
   rw[e2];exact List.perm_append_comm
  refine close (v:=v) (by rw[l]) I e1 (λj J=>?_) (f1.perm e3) ?_
  .rw[Nat.testBit_or,Bool.or_eq_true,zKr]at J;rcases J with J|J
   .exact z.2 (.inl (F j J))
   .exact z.2 (.inl (t j J.1))
  .rw[l];exact f2.perm C.symm e3
end DRun
end Go.Sy
namespace Go.Sy
def zXh(r:Nat->Option Nat)(o:Oper)(m:Nat):Prop:=
 ∀k,m.testBit k=true->∃e∈o.after,Region.binds .any e=true/\(k=e.on\/∃b,r e.on=some b/\b.testBit k=true)
theorem zUb(b:Array Nat):∀(es:List Edge)(s k:Nat),(es.foldl (λs e=>if Region.binds .any e then s ||| 2 ^ e.on ||| b.getD e.on 0 else s) s).testBit k=true →
  s.testBit k=true\/∃e∈es,Region.binds .any e=true/\(k=e.on\/∃c,b[e.on]?=some c/\c.testBit k=true)
 |[],s,k,h=>.inl h
 |e::es,s,k,h=>by
  rcases zUb b es _ k h with h|⟨j,h1,g⟩
  .simp only at h;split at h
   .rename_i f;rw[Nat.testBit_or,Nat.testBit_or,Bool.or_eq_true,Bool.or_eq_true]at h;rcases h with(h|h)|h
    .exact .inl h
    .rw[Nat.testBit_two_pow]at h;exact .inr ⟨e,.head _,f,.inl (by have:=QP h;exact this.symm)⟩
    .refine .inr ⟨e,.head _,f,.inr ?_⟩
     rw[Array.getD_eq_getD_getElem?]at h;cases hm:b[e.on]? with
     |none=>rw[hm]at h;simp at h
     |some c=>rw[hm]at h;exact⟨c,rfl,h⟩
   .exact .inl h
  .exact .inr ⟨j,.tail _ h1,g⟩
theorem zVW:∀(f:List Oper)(c:Array Nat),let r:=f.foldl (λc o=>c.push (o.after.foldl (λs e=>if Region.binds .any e then s ||| 2 ^ e.on ||| c.getD e.on 0 else s) 0)) c
  (∀(j m:Nat),c[j]?=some m->r[j]?=some m)/\r.size=c.size+f.length/\∀(j:Nat)(o:Oper),f[j]?=some o->∃m,r[c.size+j]?=some m/\zXh (λj=>r[j]?) o m
 |[],c=>⟨λ_ _ h=>h,rfl,λj o h=>by simp at h⟩
 |o::f,c=>by
  intro r;obtain⟨h1,n,q⟩:=zVW f (c.push (o.after.foldl (λs e=>if Region.binds .any e then s ||| 2 ^ e.on ||| c.getD e.on 0 else s) 0))
  have up:∀(j m:Nat),c[j]?=some m->r[j]?=some m:=λj m h=>h1 j m (by
   have:=(Array.getElem?_eq_some_iff.1 h).1;rw[Array.getElem?_push_lt this];rw[Qi this]at h;exact h)
  have g:r.size=c.size+1+f.length:=by rw[Array.size_push]at n;exact n
  refine⟨up,by rw[g,QL];omega,λj t l=>?_⟩
  cases j with
  |zero=>
   simp at l;subst l;refine⟨_,h1 c.size _ Array.getElem?_push_size,λk hk=>?_⟩
   rw[←Array.foldl_toList]at hk;rcases zUb c _ 0 k hk with h|⟨e,v,p,h⟩
   .simp at h
   .exact⟨e,by simpa using v,p,h.imp id λ⟨u,a,b⟩=>⟨u,up _ _ a,b⟩⟩
  |succ j=>
   obtain⟨m,a,b⟩:=q j t (by simpa using l)
   refine⟨m,?_,b⟩
   rw[←a];congr 1;simp;omega
theorem zSZ{ops:Array Oper}:(Region.before ops).size=ops.size/\∀(j:Nat)(o:Oper),ops[j]?=some o->∃m,(Region.before ops)[j]?=some m/\zXh (λj=>(Region.before ops)[j]?) o m:=by
 have h:=zVW ops.toList #[];have e:Region.before ops=ops.toList.foldl (λc o=>c.push (o.after.foldl (λs e=>if Region.binds .any e then s ||| 2 ^ e.on ||| c.getD e.on 0 else s) 0)) #[]:=by
  rw[Array.foldl_toList];rfl
 rw[e];refine⟨by simpa using h.2.1,λj o f=>?_⟩
 obtain⟨m,a,b⟩:=h.2.2 j o (by simpa using f)
 exact⟨m,by simpa using a,b⟩
theorem zQ9{ops:Array Oper}{P:Program}:∀{c:List Oper}{ms:JV}{i:Nat}{d:XD},(zFM ops P c ms)[i]?=some d->∃m,ms[i]?=some m/\d.qe=m
 |o::r,m::ms,0,d,h=>by simp[zFM]at h;exact⟨m,rfl,by rw[←h]⟩
 |o::r,m::ms,i+1,d,h=>by
  simp only[zFM,List.getElem?_cons_succ]at h;obtain⟨e,a,b⟩:=zQ9 h;exact⟨e,by simpa using a,b⟩
 |[],ms,i,d,h=>by simp[zFM]at h
 |_::_,[],i,d,h=>by simp[zFM]at h
theorem zPM:∀{k:List Oper}{i:Nat},zR8 i k=true->∀(j:Nat)(o:Oper),k[j]?=some o->∀e∈o.after,Region.binds .any e=true->e.on<i+j
 |o::r,i,h,0,g,b,e,c,f=>by
  simp at b;subst b;simp only[zR8,qr,QD]at h;have:=h.1 e (by simpa using c)
  simp only[f,Bool.not_true,Bool.false_or]at this;rw[Ql]at this;exact this
 |o::r,i,h,j+1,g,b,e,c,f=>by
  simp only[zR8,qr]at h;have:=zPM h.2 j g (by simpa using b) e c f
  omega
 |[],i,h,j,g,b,e,c,f=>by simp at b
theorem zNH:∀{xs:List XOper}{ds:List XD}{i:Nat}{es:List (Nat×Option Nat×XD)},zPb i es xs ds=true->∀(k:Nat)(y:XOper)(b:XD),xs[k]?=some y->ds[k]?=some b →
  (∀e∈es,b.qe.testBit e.1=true\/zKp e.2.1 e.2.2 y.dst b=true)/\∀(j:Nat)(x:XOper)(f:XD),j<k->xs[j]?=some x->ds[j]?=some f->b.qe.testBit (i+j)=true\/zKp x.dst f y.dst b=true
 |[],_,_,_,_,k,y,b,h,_=>by simp at h
 |_::_,[],_,_,h,_,_,_,_,_=>by simp[zPb]at h
 |r::xs,d0::ds,i,es,h,k,y,b,l,g=>by
  simp only[zPb,qr,QD,Bool.or_eq_true]at h;cases k with
  |zero=>
   simp at l g;subst l;subst g;exact⟨h.1,λj x f p=>by omega⟩
  |succ k=>
   obtain⟨h1,n⟩:=zNH h.2 k y b (by simpa using l) (by simpa using g)
   refine⟨λe q=>h1 e (.tail _ q),λj x f p m c=>?_⟩
   cases j with
   |zero=>
    simp at m c;subst m;subst c;exact h1 _ (.head _)
   |succ j=>
    have:=n j x f (by omega) (by simpa using m) (by simpa using c)
    rwa [show i+(j+1)=i+1+j by omega]
namespace DRun
variable{dl:List Deferred}{P:Program}{G:Cx}{call:Call}{ops:Array Oper}{ds:List XD}{st:Nat->DS}{H0:Heap}{fr0:Fr}{nx0 nt:Nat}
def Ahead(ops:Array Oper)(ds:List XD):Prop:=
 ∀(j:Nat)(o:Oper)(d:XD),ops[j]?=some o->ds[j]?=some d->∀k,d.qe.testBit k=true->∃e∈o.after,Region.binds .any e=true/\(k=e.on\/∃b,ds[e.on]?=some b/\b.qe.testBit k=true)
def Down(ops:Array Oper):Prop:=∀(j:Nat)(o:Oper),ops[j]?=some o->∀e∈o.after,Region.binds .any e=true->e.on<j
theorem any_order(t:zIb P G call)(hm:zCa P G)(R:DRun P G call ops ds st H0 fr0 nx0 nt){E0:Env}{w0:World}(K:HR E0 H0 w0)(N:GR G E0 w0)(F:zH6 E0 nx0 (st ops.size).nx)
  (ha:Ahead ops ds) (M:Down ops) {Q:Exit->Act->World->Prop} (S:∀L E w a,(∀j,j<ops.size->L j=true)->Inv dl st ops.size E0 H0 w0 fr0 nt L E w a->Q .normal a w):
  ∀(fuel:Nat)(listed:Array Bool)(E:Env)(a:Act)(w:World),listed.size=ops.size->listed.toList.count false<=fuel →
   (∀(k:Nat)(y:XD),listed.getD k false=true->ds[k]?=some y->∀j,y.qe.testBit j=true->listed.getD j false=true) →
   Inv dl st ops.size E0 H0 w0 fr0 nt (λj=>listed.getD j false) E w a->wpAny P .any ops Q fuel listed a w:=by
 have done:∀(listed:Array Bool),listed.size=ops.size->Region.ready .any ops listed=[]->∀j,j<ops.size->listed.getD j false=true:=by
  intro listed c z j
  induction j using Nat.strongRecOn with
  |_ j O=>
   intro f;cases hl:listed.getD j false with
   |true=>rfl
   |false=>
    have g:j<listed.size:=c▸f
    have:j∈Region.ready .any ops listed:=by
     rw[mem_ready];refine⟨?_,ops[j],Qi f,λe D C=>?_⟩
     .simpa[g]using hl
     .have:=M j _ (Qi f) e D C;exact O e.on this (by omega)
    rw[z]at this;cases this
 intro fuel
 induction fuel with
 |zero=>
  intro listed E a w c hc n m;have q:∀j,j<ops.size->listed.getD j false=true:=by
   intro j f;have g:j<listed.size:=c▸f
   cases hl:listed.getD j false with
   |true=>rfl
   |false=>
    have:false∈listed.toList:=by
     have s:listed[j]=false:=by simpa[g]using hl
     rw[←s];simp
    have:=List.count_pos_iff.2 this;omega
  refine⟨?_,S _ E w a q m⟩
  cases z:Region.ready .any ops listed with
  |nil=>rfl
  |cons x r=>
   have hx:x∈Region.ready .any ops listed:=by rw[z];exact .head _
   obtain⟨h1,o,v,_⟩:=mem_ready.1 hx;have l:=(Array.getElem?_eq_some_iff.1 v).1;have s:=q x l;have g:x<listed.size:=c▸l
   simp[g]at h1 s;rw[s]at h1;cases h1
 |succ fuel O=>
  intro listed E a w c hc n m;refine⟨λz=>S _ E w a (done listed c z) m,λi hi=>?_⟩
  obtain⟨h1,o,v,s⟩:=mem_ready.1 hi;have l:=(Array.getElem?_eq_some_iff.1 v).1;have b:i<listed.size:=c▸l
  have J:listed.getD i false=false:=by simpa[b]using h1
  have A:∀j,(listed.setIfInBounds i true).getD j false=(listed.getD j false||j==i):=by
   intro j;by_cases f:i=j
   .subst f;simp[b]
   .rw[getD_set_ne false f];have:(j==i)=false:=by simp;exact λh=>f h.symm
    simp[this]
  have p:∀(d:XD),ds[i]?=some d->∀j,d.qe.testBit j=true->listed.getD j false=true:=by
   intro d V j f;obtain⟨e,D,C,h|⟨d',U,I⟩⟩:=ha i o d v V j f
   .rw[h];exact s e D C
   .exact n e.on d' (s e D C) U j I
  refine exec t hm R K N F v J A n p m λX Y W u=>O _ X Y W (by simpa using c) ?_ ?_ u
  .have U:listed.toList[i]?=some false:=by
    have:listed[i]=false:=by simpa[b]using J
    simp[b,this]
   have I:(listed.setIfInBounds i true).toList=listed.toList.set i true:=by simp
   rw[I,List.count_set (by simpa using b)]
   have T:listed.toList[i]'(by simpa using b)=false:=by simpa[b]using J
   have h6:0<listed.toList.count false:=List.count_pos_iff.2 (by rw[←T];exact QR _)
   simp only[T];simp;simp at h6 hc;omega
  .intro k y hk B j f;rw[A]at hk⊢;rw[Bool.or_eq_true,beq_iff_eq]at hk;rcases hk with hk|hk
   .rw[n k y hk B j f];rfl
   .subst hk;rw[p y B j f];rfl
end DRun
theorem zZ7{P:Program}{G:Cx}{call:Call}{id:Nat}{ops:Array Oper}{xs:List XOper}{ds:List XD}{nt:Nat}{fr fr':Fr}{H H':Heap}{nx B:Nat}(f:zIb P G call)(hm:zCa P G)(ac:P.follows .mixedOrders=true)
  (hc:zS P (.region id ops true)=some (.draw xs ds)) (U:zGs nt (.draw xs ds)=true) (h:zR6 G call xs ds (fr,H,nx)=some (fr',H',B)):
  nx<=B/\∀(E:Env)(w:World)(a:Act)(Q:Exit->Act->World->Prop)(dl:List Deferred),HR E H w->FrR E w fr a nt->GR G E w->zH6 E nx B->a.defers=dl →
   (∀E' w' a',HR E' H' w'->Tr E H w E' H' w' nx B->FrR E' w' fr' a' nt->a'.defers=dl->Q .normal a' w')->(Code.region id ops true).wp P Q a w:=by
 simp only[zS]at hc;split at hc
 .rename_i ae;split at hc
  .rename_i hp;simp only[QN,XC.draw.injEq]at hc;obtain⟨rfl,rfl⟩:=hc;unfold zR6 at h;split at h
   .rename_i s hs;split at h
    .rename_i ak;split at h
     .rename_i m inc D A;simp only[QN,Prod.mk.injEq]at h;obtain⟨rfl,rfl,rfl⟩:=h;obtain⟨st,S,y,e2⟩:=zPe hs;have V:(ops.toList.map (zu P ops)).length=ops.size:=by simp
      rw[V]at y;obtain⟨b1,b2⟩:=zSZ (ops:=ops);have J:∀{j:Nat}{d:XD},(zFM ops P ops.toList (Region.before ops).toList)[j]?=some d->(Region.before ops)[j]?=some d.qe:=λh=>by
       obtain⟨m,a,b⟩:=zQ9 h;rw[b];simpa using a
      have ad:∀(M:List Oper)(D:List Nat),M.length=D.length->(zFM ops P M D).length=M.length:=by
       intro M
       induction M with
       |nil=>intro D _;simp[zFM]
       |cons o M W=>intro D A;cases D with
        |nil=>simp at A
        |cons m D=>simp[zFM,W D (by simpa using A)]
      have p:DRun.Ahead ops (zFM ops P ops.toList (Region.before ops).toList):=by
       intro j o d I N k hk;obtain⟨m,c1,c2⟩:=b2 j o I;have:=J N;rw[c1]at this;cases this;obtain⟨e,K,F,h|⟨m',h3,h4⟩⟩:=c2 k hk
       .exact⟨e,K,F,.inl h⟩
       .refine⟨e,K,F,.inr ?_⟩
        have hl:e.on<(zFM ops P ops.toList (Region.before ops).toList).length:=by
         rw[ad _ _ (by simp[b1])]
         have:=(Array.getElem?_eq_some_iff.1 h3).1
         simpa[b1]using this
        refine⟨_,QF hl,?_⟩
        have h5:=J (QF hl);have ai:(Region.before ops)[e.on]?=some m':=h3;rw[ai]at h5;rw[←Qw h5];exact h4
      have l:DRun.Down ops:=λj o I e K F=>by
       have:=zPM ae j o (by simpa using I) e K F
       omega
      have T:∀(j:Nat)(d:XD)(k:Nat),(zFM ops P ops.toList (Region.before ops).toList)[j]?=some d->d.qe.testBit k=true->k<j:=by
       intro j
       induction j using Nat.strongRecOn with
       |_ j W=>
        intro d k N hk;have u:j<ops.size:=by
         have:=(Array.getElem?_eq_some_iff.1 (J N)).1;omega
        obtain⟨e,K,F,h|⟨d',h3,h4⟩⟩:=p j _ d (Qi u) N k hk
        .rw[h];exact l j _ (Qi u) e K F
        .have h5:=l j _ (Qi u) e K F;have:=W e.on h5 d' k h3 h4;omega
      have q:∀{j:Nat}{o:Oper},ops[j]?=some o->(ops.toList.map (zu P ops))[j]?=some (zu P ops o):=λh=>by simp[h]
      have R:DRun P G call ops (zFM ops P ops.toList (Region.before ops).toList) st H fr nx nt:=by
       refine⟨λj o I=>?_,S,λj k oj ok dj dk ag u hk aj af=>?_,T,λj o d I N=>?_,λr O=>?_⟩
       .obtain⟨d,h1,h2⟩:=e2 j _ (q I);exact⟨d,h1,by simpa using h2⟩
       .have:=(zNH hp k _ dk (q hk) af).2 j _ dj ag (q u) aj
        simpa[zDo]using this
       .have h1:=QD.1 U _ (QE (q I));rw[zDo,N]at h1
        simpa[Ql]using h1
       .rw[y]at O⊢;exact QD.1 ak r O
      have ab:nx<=s.nx:=by
       have:=R.mono f.le (QI ops.size) (QA _);rw[S,y]at this;exact this
      refine⟨ab,λE w a Q dl O hf hg ao ah hQ=>?_⟩
      refine wp_region_any ac ?_
      obtain⟨d1,d2⟩:=zJV (w':={ w with drawn:=w.drawn+1 }) O ⟨rfl,rfl,rfl,rfl⟩ nx
      refine DRun.any_order (dl:=dl) (E0:=E) (w0:={ w with drawn:=w.drawn+1 }) f hm R d1 (λg v hv=>⟨d2.vr O (hg g v hv).1,(hg g v hv).2.mono d2.qn⟩) (by rw[y];exact ao) p l (λL E' w' a' hL z=>?_) ops.size _ E a _ (by simp) ?_ ?_ ?_
      .obtain⟨m',aa,i1,i2,i3,i4⟩:=z.heap;rw[y]at i1 i3 i4;have low:=R.lows ops.size (QA _);rw[y]at low;have i5:some (m',aa)=some (m,inc):=by
        rw[←i1,A];exact zXg λc hc=>hL _ (low.ch c hc)
       cases i5;have e3:within (λj=>L j&&!inc.testBit j) s.al=within (λj=>!inc.testBit j) s.al:=zE6 λx C=>by
        simp only[hL _ (low.al x C),Bool.true_and]
       rw[e3]at i3 i4;have e4:Tr E H { w with drawn:=w.drawn+1 } E' (within (λj=>!inc.testBit j) s.al++m) w' nx s.nx:=by
        refine i4.uF ab λh=>?_
        constructor
        .rintro ⟨j,u,_,h1,h2⟩
         have g1:=R.mono f.le (QI j) (Qm u);have g2:=R.mono f.le (i:=j+1) u (QA _);rw[S]at g1;rw[y]at g2;exact⟨Qj g1 h1,Qf h2 g2⟩
        .rintro ⟨h1,h2⟩
         have X:∀n,n<=ops.size->h<(st n).nx->∃j,j<n/\(st j).nx<=h/\h<(st (j+1)).nx:=by
          intro n
          induction n with
          |zero=>intro _ hh;rw[S]at hh;exact absurd hh (by simpa using h1)
          |succ n W=>
           intro hn hh;by_cases C:h<(st n).nx
           .obtain⟨j,a,b⟩:=W (by omega) C
            exact⟨j,by omega,b⟩
           .exact⟨n,by omega,by omega,hh⟩
         obtain⟨j,a,b⟩:=X ops.size (QA _) (by rw[y];exact h2)
         exact⟨j,a,hL j a,b⟩
       refine hQ E' w' a' i3 (d2.trans d1 e4) ⟨z.size,λt v ht=>z.fr t v ?_⟩ z.defers
       rw[←ht,←y,←R.frames t ops.size (QA _)];refine zM1 λx C _=>?_
       have low:=R.lows ops.size (QA _);exact hL _ (low.tr x C)
      .simp
      .intro k dk hk;rw[Array.getD_eq_getD_getElem?,Array.getElem?_replicate]at hk;split at hk<;>simp at hk
      .have Y:∀j,(Array.replicate ops.size false).getD j false=false:=λj=>by
        rw[Array.getD_eq_getD_getElem?,Array.getElem?_replicate];split<;>rfl
       refine⟨hf.size,ah,λt v ht=>?_,H,0,?_,λj u=>by simp at u,?_,?_⟩
       .have:scan (λj=>(Array.replicate ops.size false).getD j false) fr t (st ops.size).tr=fr.get t:=by
         have:=zOs (L:=λj=>(Array.replicate ops.size false).getD j false) (fr0:=fr) (t:=t) (r:=[]) (nw:=(st ops.size).tr) λx _ C=>by rw[Y]at C;cases C
         simpa[scan]using this
        rw[this]at ht;exact d2.vr O (hf.get t v ht)
       .obtain⟨nc,nm,k1,k2,k3,_⟩:=(R.last f.le (i:=0) (QI _)).ch;rw[k1,k2,zPL k3 λc _=>Y _,S]
        rfl
       .have:within (λj=>(Array.replicate ops.size false).getD j false&&!Nat.testBit 0 j) (st ops.size).al=[]:=zGh λx _=>by rw[Y];rfl
        rw[this];exact d1
       .have:within (λj=>(Array.replicate ops.size false).getD j false&&!Nat.testBit 0 j) (st ops.size).al=[]:=zGh λx _=>by rw[Y];rfl
        rw[this];exact vL.vP (.refl nx) λh=>⟨λ⟨j,_,u,_⟩=>by rw[Y]at u;(cases u),λ⟨a,b⟩=>by omega⟩
     .cases h
    .cases h
   .cases h
  .cases hc
 .cases hc
end Go.Sy
namespace Go.Sy
def zXi:Ext->Exit
 |.normal=>.normal
 |.exit i=>.exit i
 |.ret=>.ret
section
variable{P:Program}{G:Cx}{call:Call}{nt:Nat}
theorem FrR.put{E E':Env}{w w':World}{fr:Fr}{a:Act}{d:Option Nat}{v:AV}{cv:Value}(b:FrR E w fr a nt)(hm:∀{v cv},VR E w v cv->VR E' w' v cv)(c:∀n,d=some n->n<nt)(g:VR E' w' v cv):FrR E' w' (qu fr d v) (a.put d cv) nt:=by
 cases d with
 |none=>exact⟨b.size,λt u h=>hm (b.get t u h)⟩
 |some n=>
  refine⟨by rw[DRun.put_size];exact b.size,λt u h=>?_⟩
  simp only[qu,Fr.qq]at h;have f:n<a.tmps.size:=by rw[b.size];exact c n rfl
  split at h
  .rename_i e;subst e;cases h
   simpa[Act.put,f]using g
  .rename_i e;have:(a.put (some n) cv).tmps.getD t undef=a.tmps.getD t undef:=by simp[Act.put,Array.getElem?_setIfInBounds_ne e]
   rw[this];exact hm (b.get t u h)
theorem GR.step{E E':Env}{H H':Heap}{w w':World}{a b:Nat}(e:HR E H w)(c:GR G E w)(t:Tr E H w E' H' w' a b):GR G E' w':=λg v h=>⟨t.vr e (c g v h).1,(c g v h).2.mono t.qn⟩
end
section
variable{P:Program}{G:Cx}{E:Env}{w:World}{H:Heap}{nx:Nat}
theorem zQH(sz:Nat):∀(n:Nat)(cs:JE),(chunks sz n cs).length=n
 |0,_=>rfl
 |n+1,cs=>by simp only[chunks,QL,zQH sz n]
theorem zUc{fr:Fr}{a:Act}{nt:Nat}(s:HR E H w)(l:FrR E w fr a nt):∀{rs:List ResultVar}{xs:List XR}{vs:JE},zLo P rs=some xs->zJi H fr xs=some vs →
  ∃cvs:JC,(rs.mapM (m:=Sem) λ|.tmp t=>pure (a.tmps.getD t undef)|.cell x t=>do loadVar t (←asAddr (a.tmps.getD x undef))).run P w=.ok cvs w/\VRs E w vs cvs
 |[],xs,vs,hc,h=>by
  simp only[zLo,QN]at hc;subst hc;simp only[zJi,QN]at h;subst h;exact⟨[],by simp,VRs.nil⟩
 |r::rs,xs,vs,hc,h=>by
  simp only[zLo]at hc;split at hc
  .rename_i x y c j;cases hc;simp only[zJi]at h;split at h
   .rename_i v e;split at h
    .rename_i C n;cases h;obtain⟨cvs,p,u⟩:=zUc s l j n;cases r with
     |tmp t=>
      simp only[zVc,QN]at c;subst c;exact⟨_::cvs,by simp only[List.mapM_cons,Sem.run_bind,Sem.run_pure,Result.andThen_ok,p],VRs.cons (l.get t v e) u⟩
     |cell b t=>
      simp only[zVc]at c;obtain⟨J,k,c⟩:=za c;obtain⟨K,g,c⟩:=za c;cases c;simp only[zWH]at e;split at e
      .rename_i A f;obtain⟨q,z,D,B,F⟩:=zT1 (P:=P) s (l.get b A f) k g e;have I:(asAddr (.pointer (some q))).run P w=.ok q w:=by simp[asAddr]
       refine⟨z::cvs,?_,VRs.cons F u⟩
       simp only[List.mapM_cons,Sem.run_bind,D,I,Sem.run_pure,Result.andThen_ok,B,p]
      .cases e
    .cases h
   .cases h
  .cases hc
def zUd:JC->Value
 |[v]=>v
 |b=>.tuple b.toArray
theorem zQI{fr:Fr}{a:Act}{nt:Nat}{fn:Func}{xs:List XR}{vs:JE}(m:HR E H w)(l:FrR E w fr a nt)(hc:zLo P fn.results.toList=some xs)(h:zJi H fr xs=some vs):
  ∃cv,(results fn a.tmps).run P w=.ok cv w/\VR E w (zEn vs) cv:=by
 obtain⟨b,g,f⟩:=zUc m l hc h;unfold results;rw[Array.mapM_eq_mapM_toList];refine⟨zUd b,?_,?_⟩
 .rw[Sem.run_bind,Sem.run_map];refine(congrArg (λr=>Result.andThen (Result.andThen r _) _) g).trans ?_
  rw[Result.andThen_ok,Result.andThen_ok];cases b with
  |nil=>simp[zUd]
  |cons v r=>cases r with
   |nil=>simp[zUd]
   |cons u r=>simp[zUd]
 .cases vs with
  |nil=>
   rw[f.of_nil];exact VR.qK (vs:=#[]) VRs.nil
  |cons v r=>
   obtain⟨cv,p,rfl,h1,e⟩:=f.of_cons;cases r with
   |nil=>rw[e.of_nil];exact h1
   |cons u r=>
    obtain⟨k,c,rfl,n,j⟩:=e.of_cons;exact VR.qK (vs:=(cv::k::c).toArray) (VRs.cons h1 (VRs.cons n j))
theorem zRa:∀{n:Nat}{args:JE}{t:Nat}{v:AV},(qE n args).get t=some v->∃i,t=n+i/\args[i]?=some v
 |n,[],t,v,h=>by simp[qE,Fr.get]at h
 |n,x::r,t,v,h=>by
  simp only[qE,Fr.get]at h;split at h
  .rename_i e;cases h;exact⟨0,by rw[←zc e];rfl,rfl⟩
  .obtain⟨i,e,h⟩:=zRa h;exact⟨i+1,by omega,by simpa using h⟩
end
end Go.Sy
namespace Go.Sy
open Go.ChangeShapes
structure Kept(W W':World):Prop where
 kept:∀S:MemPlace->Prop,W.keptBut W' S
 frozen:∀a:Addr,a.block<W.heap.size->W'.frozen? a=W.frozen? a
 size:W.heap.size<=W'.heap.size
 heap:∀b,b<W.heap.size->W'.heap[b]? = W.heap[b]?
 below:RowKit.Below W.heap.size W W'
theorem Kept.vP{E E':Env}{H':Heap}{W c:World}{a b:Nat}(t:Tr E [] W E' H' c a b):Kept W c:=by
 have h:∀b,b<W.heap.size->c.heap[b]? = W.heap[b]?:=λb e=>t.qI b e λp f=>by simp at f
 refine⟨λS=>⟨t.os,t.output,λi g=>?_⟩,λa j=>?_,t.size,h,⟨t.os,t.tape,t.output,t.size,h⟩⟩
 .rw[h i g];cases W.heap[i]? with
  |none=>rfl
  |some o=>cases o<;>simp
 .simp only[World.frozen?,h a.block j]
theorem zhL{H:Type}{enc:TypeId×Value->H}{P:Program}{f:Func}{s:ChangeSpec}{k fresh e n:Bool}{W y:World}{args:JB}{v:Value}{ds gs:List (DataW H)}{c pa pv:List MemPlace}
  (A:DataW.Whole enc P f.params.toList s.vars k W args.toList ds gs c)
  (m:∀(b:Nat)(q:Nat->Bool)(D:Bool),DataW.TrodAll enc P y b q D f.resultTypes.toList (v.resultList f.resultTypes.size) (s.fn H (ds++gs)).results [])
  (g:∀q:Nat->Bool,(∀p∈c,q p.block=true)->DataW.TrodAll enc P y 0 q true f.params.toList args.toList (s.fn H (ds++gs)).args pa)
  (h:∀q:Nat->Bool,(∀p∈c,q p.block=true)->DataW.TrodVars enc P y q s.vars (s.fn H (ds++gs)).vars pv)
  (x:c=pa++pv) (hk:Kept W y)
  (C:∀(j:Nat)(t:TypeId)(r:Value),f.resultTypes[j]?=some t->(v.resultList f.resultTypes.size)[j]?=some r->Value.okWide P y .any 0 t r):
  s.post enc P f k fresh e n W args v y:=by
 have l:∀p∈c,(λb=>decide (b<W.heap.size)) p.block=true:=λp u=>by simpa using A.lt p u
 have B:=λp u=>A.lt p u
 refine⟨ds,gs,c,[],pa,pv,A,m _ _ _,g _ l,h _ l,hk.kept _,λ_=>?_⟩
 obtain⟨_,_,_,_,_,F,I⟩:=A;refine⟨C,_,_,([]++pa)++pv,⟨[]++pa,pv,trodAll_append (g _ (λ_ _=>rfl)) (m _ _ _),h _ (λ_ _=>rfl),rfl,?_,?_⟩,?_⟩
 .intro b off u;have z:MemPlace.cell b off∈c:=by rw[x];simpa using u
  rw[hk.frozen _ (B _ z)];exact F b off z
 .intro J;have:=I J;rw[x]at this
  simpa using this
 .intro p u _;rw[x]
  simpa using u
def Env.still(W:World)(σ:Nat->Value:=λ_=>.bool true):Env:=⟨id,λ_=>False,λb=>b<W.heap.size,σ⟩
theorem HR.still(W:World)(σ:Nat->Value:=λ_=>.bool true):HR (Env.still W σ) [] W:=
 ⟨.nil,λp b=>by simp at b,λp b=>by simp at b,λp b=>by simp at b,λp b=>by simp at b,λ_ c=>c⟩
theorem zgu{P:Program}{G:Cx}{f:FuncId}{args:JE}{cargs:JB}{n:Nat}{H':Heap}{W:World}{σ:Nat->Value}(g:FnT P G f args [] 0 (.bool true) H' n)(l:VRs (Env.still W σ) W args cargs.toList)(j:GR G (Env.still W σ) W):
  Calls P f cargs W λe b=>e=.returned (.bool true)/\Kept W b:=by
 refine(g (Env.still W σ) W cargs (.still W σ) l j λ_ _ _ h=>h).mono λe b h=>?_
 obtain⟨m,p,rfl,h1,c,k⟩:=h;rw[k.of_bool];exact⟨rfl,.vP c⟩
end Go.Sy
namespace Go.Sy
set_option maxRecDepth 4000
inductive L8 where
 |mk (a b c d e f g h:AV)
inductive FF where
 |mk (m0 m1 m2 m3 m4 m5 m6 m7 m8 m9 m10 m11 m12 m13 m14 m15:L8) (more:Fr)
inductive R where
 |fail
 |norm (f:FF) (H:Heap) (nx:Nat)
 |exit (i:Nat) (f:FF) (H:Heap) (nx:Nat)
 |ret (f:FF) (H:Heap) (nx:Nat)
 |out (v:AV) (H:Heap) (nx:Nat)
noncomputable section
end
end Go.Sy
namespace Go.Sy
set_option maxRecDepth 8000
def zMa:Option XV->List XV
 |none=>[]
 |some x=>[x]
def XO.qb:XO->List XV
 |.bad =>[]
 |.vA x=>[x]
 |.pick c a b=>[c]++[a]++[b]
 |.bin _ x y=>[x]++[y]
 |.beq _ x y=>[x]++[y]
 |.peq _ x y=>[x]++[y]
 |.wF _ _ x y=>[x]++[y]
 |.vN _ _ _ x y=>[x]++[y]
 |.seq _ x y=>[x]++[y]
 |.vV _ x y=>[x]++[y]
 |.vT _ x y=>[x]++[y]
 |.un _ x=>[x]
 |.conv _ x=>[x]
 |.vB x=>[x]
 |.vj x=>[x]
 |.v8 x=>[x]
 |.mark x=>[x]
 |.w7 x c=>[x]++[c]
 |.w8 x c=>[x]++[c]
 |.vY x _ _ _=>[x]
 |.ext x _=>[x]
 |.wK x i=>[x]++[i]
 |.q9 x i _ _ _=>[x]++[i]
 |.box x _=>[x]
 |.alloc _=>[]
 |.build _ j=>j.map (·.2.2)
 |.qx _ _ _ j=>j.map (·.2.2)
 |.load x _ _=>[x]
 |.store a x _=>[a]++[x]
 |.wq x=>[x]
 |.qR x _=>[x]
 |.qC x i _=>[x]++[i]
 |.qy x i _ _=>[x]++[i]
 |.wC x h e=>[x]++zMa h++zMa e
 |.wv x h e n _=>[x]++zMa h++zMa e++zMa n
 |.vG x h e _ _=>[x]++zMa h++zMa e
 |.vb x=>[x]
 |.wj x=>[x]
 |.vI x=>[x]
 |.wP _=>[]
 |.cap x=>[x]
 |.append x y _ _=>[x]++[y]
 |.copy x y _=>[x]++[y]
 |.vR x _ _=>[x]
 |.vW x=>[x]
 |.min x y=>[x]++[y]
 |.max x y=>[x]++[y]
 |.qL l c _ _ _=>[l]++[c]
 |.wm =>[]
 |.lookup _ _ m k _ _=>[m]++[k]
 |.wE _ _ m k v=>[m]++[k]++[v]
 |.del _ _ m k=>[m]++[k]
 |.wb _ first g=>first++g
 |.wQ _ x=>[x]
 |.vK x _ _ _=>[x]
 |.vH x=>[x]
 |.vq x=>[x]
 |.call _ args=>args
 |.qM f args=>[f]++args
 |.invoke r _ args=>[r]++args
theorem zEZ{G:Cx}{b c:Fr}:∀{l:List XV},(∀x∈l,x.ev G b=x.ev G c)->evs G b l=evs G c l
 |[],_=>rfl
 |x::r,h=>by simp only[evs,h x (.head _),zEZ λy e=>h y (.tail _ e)]
theorem zD9{G:Cx}{b c:Fr}{x:Option XV}(h:∀y∈zMa x,y.ev G b=y.ev G c):evo G b x=evo G c x:=by
 cases x with
 |none=>rfl
 |some y=>simp only[evo,h y (.head _)]
theorem zJm{G:Cx}{e c:Fr}:∀{f:List (Nat×Nat×XV)}{cs:JE},(∀x∈f.map (·.2.2),x.ev G e=x.ev G c)->zCs G e cs f=zCs G c cs f
 |[],_,_=>rfl
 |(a,b,x)::r,cs,h=>by
  simp only[zCs,h x (.head _)];cases x.ev G c with
  |none=>rfl
  |some v=>
   simp only;cases cellsOf v b with
   |none=>rfl
   |some new=>
    simp only;cases Nat.ble (a+b) cs.length with
    |false=>rfl
    |true=>exact zJm λy g=>h y (.tail _ g)
theorem zXj{G:Cx}{call:Call}{p j:Fr}{H:Heap}{nx:Nat}{o:XO}(h:∀x∈o.qb,x.ev G p=x.ev G j):xo G call p H nx o=xo G call j H nx o:=by
 rw[zKo,zKo];cases o with
 |bad =>rfl
 |vA x=>
  have e:=h x (by simp[XO.qb])
  simp only[xoS,e]
 |pick c a b=>
  have e:=h c (by simp[XO.qb])
  have g:=h a (by simp[XO.qb])
  have u:=h b (by simp[XO.qb])
  simp only[xoS,e,g,u]
 |bin op x y=>
  have e:=h x (by simp[XO.qb])
  have g:=h y (by simp[XO.qb])
  simp only[xoS,e,g]
 |beq neg x y=>
  have e:=h x (by simp[XO.qb])
  have g:=h y (by simp[XO.qb])
  simp only[xoS,e,g]
 |peq neg x y=>
  have e:=h x (by simp[XO.qb])
  have g:=h y (by simp[XO.qb])
  simp only[xoS,e,g]
 |wF neg I x y=>
  have e:=h x (by simp[XO.qb])
  have g:=h y (by simp[XO.qb])
  simp only[xoS,e,g]
 |vN neg lit M x y=>
  have e:=h x (by simp[XO.qb])
  have g:=h y (by simp[XO.qb])
  simp only[xoS,e,g]
 |seq neg x y=>
  have e:=h x (by simp[XO.qb])
  have g:=h y (by simp[XO.qb])
  simp only[xoS,e,g]
 |vV neg x y=>
  have e:=h x (by simp[XO.qb])
  have g:=h y (by simp[XO.qb])
  simp only[xoS,e,g]
 |vT neg x y=>
  have e:=h x (by simp[XO.qb])
  have g:=h y (by simp[XO.qb])
  simp only[xoS,e,g]
 |un op x=>
  have e:=h x (by simp[XO.qb])
  simp only[xoS,e]
 |conv N x=>
  have e:=h x (by simp[XO.qb])
  simp only[xoS,e]
 |vB x=>
  have e:=h x (by simp[XO.qb])
  simp only[xoS,e]
 |vj x=>
  have e:=h x (by simp[XO.qb])
  simp only[xoS,e]
 |v8 x=>
  have e:=h x (by simp[XO.qb])
  simp only[xoS,e]
 |mark x=>
  have e:=h x (by simp[XO.qb])
  simp only[xoS,e]
 |w7 x c=>
  have e:=h x (by simp[XO.qb])
  have g:=h c (by simp[XO.qb])
  simp only[xoS,e,g]
 |w8 x c=>
  have e:=h x (by simp[XO.qb])
  have g:=h c (by simp[XO.qb])
  simp only[xoS,e,g]
 |vY x off s F=>
  have e:=h x (by simp[XO.qb])
  simp only[xoS,e]
 |ext x i=>
  have e:=h x (by simp[XO.qb])
  simp only[xoS,e]
 |wK x i=>
  have e:=h x (by simp[XO.qb])
  have g:=h i (by simp[XO.qb])
  simp only[xoS,e,g]
 |q9 x i len s F=>
  have e:=h x (by simp[XO.qb])
  have g:=h i (by simp[XO.qb])
  simp only[xoS,e,g]
 |box x s=>
  have e:=h x (by simp[XO.qb])
  simp only[xoS,e]
 |alloc z=>rfl
 |build z D=>
  have e:zCs G p z D=zCs G j z D:=zJm λy q=>h y (by simpa[XO.qb]using q)
  simp only[xoS,e]
 |qx len s z D=>
  have e:zCs G p z D=zCs G j z D:=zJm λy q=>h y (by simpa[XO.qb]using q)
  simp only[xoS,e]
 |load x s F=>
  have e:=h x (by simp[XO.qb])
  simp only[xoS,e]
 |store a x s=>
  have e:=h a (by simp[XO.qb])
  have g:=h x (by simp[XO.qb])
  simp only[xoS,e,g]
 |wq x=>
  have e:=h x (by simp[XO.qb])
  simp only[xoS,e]
 |qR x off=>
  have e:=h x (by simp[XO.qb])
  simp only[xoS,e]
 |qC x i s=>
  have e:=h x (by simp[XO.qb])
  have g:=h i (by simp[XO.qb])
  simp only[xoS,e,g]
 |qy x i len s=>
  have e:=h x (by simp[XO.qb])
  have g:=h i (by simp[XO.qb])
  simp only[xoS,e,g]
 |wC x A B=>
  have e:=h x (by simp[XO.qb])
  have g:evo G p A=evo G j A:=zD9 λy q=>h y (by simp[XO.qb,q])
  have u:evo G p B=evo G j B:=zD9 λy q=>h y (by simp[XO.qb,q])
  simp only[xoS,e,g,u]
 |wv x A B J s=>
  have e:=h x (by simp[XO.qb])
  have g:evo G p A=evo G j A:=zD9 λy q=>h y (by simp[XO.qb,q])
  have u:evo G p B=evo G j B:=zD9 λy q=>h y (by simp[XO.qb,q])
  have K:evo G p J=evo G j J:=zD9 λy q=>h y (by simp[XO.qb,q])
  simp only[xoS,e,g,u,K]
 |vG x A B len s=>
  have e:=h x (by simp[XO.qb])
  have g:evo G p A=evo G j A:=zD9 λy q=>h y (by simp[XO.qb,q])
  have u:evo G p B=evo G j B:=zD9 λy q=>h y (by simp[XO.qb,q])
  simp only[xoS,e,g,u]
 |vb x=>
  have e:=h x (by simp[XO.qb])
  simp only[xoS,e]
 |wj x=>
  have e:=h x (by simp[XO.qb])
  simp only[xoS,e]
 |vI x=>
  have e:=h x (by simp[XO.qb])
  simp only[xoS,e]
 |wP n=>rfl
 |cap x=>
  have e:=h x (by simp[XO.qb])
  simp only[xoS,e]
 |append x y s bytes=>
  have e:=h x (by simp[XO.qb])
  have g:=h y (by simp[XO.qb])
  simp only[xoS,e,g]
 |copy x y s=>
  have e:=h x (by simp[XO.qb])
  have g:=h y (by simp[XO.qb])
  simp only[xoS,e,g]
 |vR x s z=>
  have e:=h x (by simp[XO.qb])
  simp only[xoS,e]
 |vW x=>
  have e:=h x (by simp[XO.qb])
  simp only[xoS,e]
 |min x y=>
  have e:=h x (by simp[XO.qb])
  have g:=h y (by simp[XO.qb])
  simp only[xoS,e,g]
 |max x y=>
  have e:=h x (by simp[XO.qb])
  have g:=h y (by simp[XO.qb])
  simp only[xoS,e,g]
 |qL l c s bytes z=>
  have e:=h l (by simp[XO.qb])
  have g:=h c (by simp[XO.qb])
  simp only[xoS,e,g]
 |wm =>rfl
 |lookup F I m k z ok=>
  have e:=h m (by simp[XO.qb])
  have g:=h k (by simp[XO.qb])
  simp only[xoS,e,g]
 |wE F I m k v=>
  have e:=h m (by simp[XO.qb])
  have g:=h k (by simp[XO.qb])
  have u:=h v (by simp[XO.qb])
  simp only[xoS,e,g,u]
 |del F I m k=>
  have e:=h m (by simp[XO.qb])
  have g:=h k (by simp[XO.qb])
  simp only[xoS,e,g]
 |wb fn first C=>
  have e:evs G p first=evs G j first:=zEZ λy q=>h y (by simp[XO.qb,q])
  have g:evs G p C=evs G j C:=zEZ λy q=>h y (by simp[XO.qb,q])
  simp only[xoS,e,g]
 |wQ t x=>
  have e:=h x (by simp[XO.qb])
  simp only[xoS,e]
 |vK x t ok z=>
  have e:=h x (by simp[XO.qb])
  simp only[xoS,e]
 |vH x=>
  have e:=h x (by simp[XO.qb])
  simp only[xoS,e]
 |vq x=>
  have e:=h x (by simp[XO.qb])
  simp only[xoS,e]
 |call f args=>
  have e:evs G p args=evs G j args:=zEZ λy q=>h y (by simp[XO.qb,q])
  simp only[xoS,e]
 |qM f args=>
  have e:=h f (by simp[XO.qb])
  have g:evs G p args=evs G j args:=zEZ λy q=>h y (by simp[XO.qb,q])
  simp only[xoS,e,g]
 |invoke r m args=>
  have e:=h r (by simp[XO.qb])
  have g:evs G p args=evs G j args:=zEZ λy q=>h y (by simp[XO.qb,q])
  simp only[xoS,e,g]
noncomputable section
variable{nt:Nat->Bool}{G:Cx}
def zM2:List XV->JV
 |[]=>[]
 |.t n::r=>n::zM2 r
 |_::r=>zM2 r
theorem zGS{n:Nat}:∀{l:List XV},XV.t n∈l->n∈zM2 l
 |.t m::r,h=>by
  rcases QH.1 h with h|h
  .cases h;exact .head _
  .exact .tail _ (zGS h)
 |.c v::r,h=>by
  rcases QH.1 h with h|h
  .cases h
  .exact zGS (l:=r) h
 |.g v::r,h=>by
  rcases QH.1 h with h|h
  .cases h
  .exact zGS (l:=r) h
end
end Go.Sy
