/- A LIBRARY: WHAT A FUNCTION'S CODE RECKONS, AS A LEAN FUNCTION, AND THAT ITS WORD IS THE MODEL'S: part 2 of 6. No condition. -/
import Derived.Test.YtcolommdbibghaaGreatDoorFxA
import Derived.Laws.Build
import Derived.Lib.Bytealg
import Derived.Deep.LoopGhost
import Derived.Scope
import Derived.ChangeSame
import Derived.ChangeShapes
import Derived.ChangeAt
import Derived.KernelRfl
import Derived.Below
set_option linter.unusedVariables false
set_option linter.unusedSimpArgs false
namespace Go.Sy
section
variable{P:Program}{G:Cx}{E:Env}{w:World}{fr:Fr}{a:Act}{nt:Nat}{H:Heap}{nx:Nat}
theorem zOS{b:Array (Nat×Operand)}:(b.map λ(i,x)=>(i,a.eval x)).toList=b.toList.map λ(i,x)=>(i,a.eval x):=by simp
theorem zL2:∀{l:List Field},(∀f∈l,∃s,zH P f.type=some s)->∃b:JN,(l.mapM λf=>do pure (f.offset,←sizeOf f.type):Sem JN).run P w=.ok b w/\b.length=l.length ∧
  ∀(i:Nat) f,l[i]?=some f->∃s,zH P f.type=some s/\b[i]?=some (f.offset,s)
 |[],_=>⟨[],by simp,rfl,λi f h=>by simp at h⟩
 |f::l,h=>by
  obtain⟨s,e⟩:=h f (.head _);obtain⟨b,h1,k,m⟩:=zL2 (l:=l) (λf j=>h f (.tail _ j))
  refine⟨(f.offset,s)::b,?_,by simp[k],λi g c=>?_⟩
  .simp only[List.mapM_cons,Sem.run_bind,zAk e,Result.andThen_ok,Sem.run_pure,h1]
  .cases i with
   |zero=>simp at c;subst c;exact⟨s,e,rfl⟩
   |succ i=>simpa using m i g (by simpa using c)
theorem zOT{f c:Nat->Option (Nat×Nat)}(h:∀i o s,f i=some (o,s)->c i=some (o,s)):∀{e:List (Nat×Operand)}{b:List (Nat×Nat×XV)},zCW f e=some b->zCW c e=some b
 |[],b,hc=>by simpa[zCW]using hc
 |(i,x)::r,b,hc=>by
  simp only[zCW]at hc⊢;split at hc
  .rename_i off l y s j g k;rw[h _ _ _ j,g,zOT h k];exact hc
  .cases hc
theorem zSx(J:HR E H w)(hf:FrR E w fr a nt)(hg:GR G E w){v:AV}{H':Heap}{aa:Nat}{o:Oper}{af:XO}{call:Sy.Call}(b0:∀c,o.op≠.call c)(hc:zAN P o.op=some af)
  (ao:zDL E nx aa) (h:xoS G call fr H nx af=some (v,H',aa)):zAn P E H w nx (execOp a.eval o) v H' aa:=by
 have K:∀{x:Operand}{N:XV}{p:AV},zw x=some N->N.ev G fr=some p->VR E w p (a.eval x):=λh1 h2=>zC hf hg h1 h2
 have V:∀{s:Sem Value}{r:Value}{D:World},(execOp a.eval o=do pure (.value (←s)))->s.run P w=.ok r D->(execOp a.eval o).run P w=.ok (.value r) D:=λh1 h2=>by
  rw[h1];simp[h2]
 have uu:∀{s:Sem Unit}{D:World},(execOp a.eval o=do s;pure .skip)->s.run P w=.ok () D->(execOp a.eval o).run P w=.ok .skip D:=λh1 h2=>by
  rw[h1];simp[h2]
 have ba:∀{x:Operand},(o.op=.move x\/o.op=.assign x)->(∃N,zw x=some N/\af=.wH N)->zAn P E H w nx (execOp a.eval o) v H' aa:=by
  rintro x C ⟨N,A,e⟩
  rw[e]at h;simp only[xoS]at h;split at h
  .rename_i p F;cases h;exact .pure J (by rcases C with C|C<;>simp[execOp,C]) (K A F)
  .cases h
 have bb:∀{t:TypeId}{m k x:Operand},(execOp a.eval o=do Instr.mapUpdate t (a.eval m) (a.eval k) (a.eval x);pure .skip) →
   (ze (zw m) λm=>ze (zw k) λk=>ze (zw x) λv=>match P.underlying t with
    |some (.map kt _)=>ze (zMG P kt) λq=>some (XO.wM q.1 q.2 m k v)
    |_=>none)=some af->zAn P E H w nx (execOp a.eval o) v H' aa:=by
  intro t m k x S hc;obtain⟨am,au,hc⟩:=za hc;obtain⟨ak,b3,hc⟩:=za hc;obtain⟨N,A,hc⟩:=za hc;split at hc
  .rename_i kt et B;obtain⟨q,hq,hc⟩:=za hc;cases hc;unfold zMG at hq;obtain⟨ks,bj,hq⟩:=za hq;obtain⟨ag,Y,hq⟩:=za hq;cases hq;simp only[xoS]at h;split at h
   .rename_i hd vk vx hm hk U;split at h
    .cases h
    rename_i be;split at h
    .rename_i es M;split at h
     .rename_i ca b2;cases h;obtain⟨D,r1,r2,r3⟩:=zS8 (P:=P) (nx:=nx) J B bj Y (K au hm) (K b3 hk) (K A U) be M b2;exact .vK (s:=Instr.mapUpdate t (a.eval m) (a.eval k) (a.eval x)) ⟨D,r1,r2,r3⟩ λD h=>uu S h
     .cases h
    .cases h
   .cases h
  .cases hc
 cases C:o.op with
 |move x=>rw[C]at hc;obtain⟨N,A,hc⟩:=za hc;cases hc;exact ba (.inl C) ⟨N,A,rfl⟩
 |assign x=>rw[C]at hc;obtain⟨N,A,hc⟩:=za hc;cases hc;exact ba (.inr C) ⟨N,A,rfl⟩
 |pick c x y=>
  rw[C]at hc;obtain⟨ac,bo,hc⟩:=za hc;obtain⟨N,A,hc⟩:=za hc;obtain⟨ay,ar,hc⟩:=za hc;cases hc;simp only[xoS]at h;split at h
  .rename_i hb;split at h
   .rename_i p F;cases h;have I:=(K bo hb).of_bool;exact .pure J (by simp[execOp,C,I,asBool]) (K A F)
   .cases h
  .rename_i hb;split at h
   .rename_i p F;cases h;have I:=(K bo hb).of_bool;exact .pure J (by simp[execOp,C,I,asBool]) (K ar F)
   .cases h
  .cases h
 |alloc e=>
  rw[C]at hc;obtain⟨z,hz,hc⟩:=za hc;cases hc;cases h;exact .qV (zRN (P:=P) J (ao nx (QA _) (by omega)) hz) λr D h=>V (by simp only[execOp,C]) h
 |box e x=>
  rw[C]at hc;obtain⟨N,A,hc⟩:=za hc;obtain⟨s,O,hc⟩:=za hc;cases hc;simp only[xoS]at h;split at h
  .rename_i p F;split at h
   .rename_i cs az;cases h;exact .qV (zUy (P:=P) (e:=e) J (ao nx (QA _) (by omega)) (K A F) az) λr D h=>V (by simp only[execOp,C]) h
   .cases h
  .cases h
 |build t ps=>
  rw[C]at hc;obtain⟨z,hz,hc⟩:=za hc;obtain⟨i,cz,hi,bw,b9,b8,b7,h2,h3⟩:=VR.zero (P:=P) (E:=E) (w:=w) (z:=.bool true) (v:=.bool true) (n:=0) hz;have bk:(zeroValue t).run P w=.ok cz w:=by simp[zeroValue,typeInfo,hi,bw]
  have R:∀{qs:List (Nat×Nat×XV)}{place:Nat->Option (Nat×Nat)},af=.build z qs->zCW place ps.toList=some qs →
    (∀Q,Instr.fill place cz.cells (ps.toList.map λ(i,x)=>(i,a.eval x))=some Q->(Instr.build t (ps.map λ(i,x)=>(i,a.eval x))).run P w=.ok (.agg Q) w)->zAn P E H w nx (execOp a.eval o) v H' aa:=by
   intro qs place I e2 e3;rw[I]at h;simp only[xoS]at h;split at h
   .rename_i cs az;cases h;obtain⟨Q,r1,r2,r3,r4⟩:=zJz hf hg e2 az h2 h3;exact .qq (s:=Instr.build t (ps.map λ(i,x)=>(i,a.eval x))) J ⟨_,e3 _ r1,VR.qT r2 r3⟩ λr D h=>V (by simp only[execOp,C]) h
   .cases h
  split at hc
  .rename_i fs B;split at hc
   .rename_i bn;obtain⟨qs,a6,hc⟩:=za hc;cases hc;obtain⟨pl,p1,p2,p3⟩:=zL2 (P:=P) (w:=w) (l:=fs.toList) λf hf=>by
     have:=QD.1 bn f hf;exact Option.isSome_iff_exists.1 this
    have bl:zCW (pl[·]?) ps.toList=some qs:=zOT (λi off sz hi=>by
     obtain⟨f,hf,hi⟩:=za hi;obtain⟨s,O,hi⟩:=za hi;cases hi;obtain⟨s',q1,q2⟩:=p3 i f (by simpa using hf)
     rw[O]at q1;cases q1;exact q2) a6
    refine R rfl bl λQ aq=>?_
    have hm:(fs.mapM λf=>do pure (f.offset,←sizeOf f.type):Sem (Array (Nat×Nat))).run P w=.ok pl.toArray w:=by
     rw[Array.mapM_eq_mapM_toList];simp only[Sem.run_map,p1,Result.andThen_ok]
    simp only[Instr.build,Sem.run_bind,bk,run_underlying B,Result.andThen_ok,hm];rw[zOS];simp only[List.getElem?_toArray];rw[aq];rfl
   .cases hc
  .rename_i n e B;obtain⟨s,O,hc⟩:=za hc;obtain⟨qs,a6,hc⟩:=za hc;cases hc;refine R rfl a6 λQ aq=>?_
   simp only[Instr.build,Sem.run_bind,bk,run_underlying B,Result.andThen_ok,zAk O];rw[zOS,aq];rfl
  .cases hc
 |buildSlice t n ps=>
  rw[C]at hc;simp only[zAN]at hc;split at hc
  .rename_i e B;obtain⟨s,O,hc⟩:=za hc;obtain⟨z,hz,hc⟩:=za hc;cases s with
   |zero=>cases hc
   |succ s=>
    simp only at hc;split at hc
    .rename_i ab;obtain⟨qs,a6,hc⟩:=za hc;cases hc;simp only[xoS]at h;split at h
     .rename_i cs az;cases h;refine .qV (zQO (P:=P) hf hg J (ao nx (QA _) (by omega)) B O hz (Qw _) (QN ab) a6 az) λr D h=>V (by
       simp only[execOp,C];congr 2;apply Array.ext';simp) h
     .cases h
    .cases hc
  .cases hc
 |insert t m k x=>rw[C]at hc;exact bb (by simp only[execOp,C]) hc
 |mapUpdate t m k x=>rw[C]at hc;exact bb (by simp only[execOp,C]) hc
 |load t x=>
  rw[C]at hc;obtain⟨N,A,hc⟩:=za hc;obtain⟨s,O,hc⟩:=za hc;obtain⟨g,Y,hc⟩:=za hc;cases hc;simp only[xoS]at h;split at h
  .rename_i p F;split at h
   .rename_i u hu;cases h;obtain⟨ad,cv,I,r1,r2⟩:=zNh (P:=P) J (K A F) O Y hu;refine .qq (s:=Instr.loadAt t (a.eval x)) J ⟨cv,?_,r2⟩ λr D h=>V (by simp only[execOp,C]) h
    rw[I];simp[Instr.loadAt,Instr.sureAddr,r1]
   .cases h
  .cases h
 |store t x y=>
  rw[C]at hc;obtain⟨N,A,hc⟩:=za hc;obtain⟨ay,ar,hc⟩:=za hc;obtain⟨s,O,hc⟩:=za hc;cases hc;simp only[xoS]at h;split at h
  .rename_i hd off p U F;split at h
   .rename_i st cs M;split at h
    .rename_i new bp;split at h
     .rename_i ab;cases h;obtain⟨I,_⟩:=(K A U).wz;obtain⟨D,r1,r2,r3⟩:=zRK (P:=P) J (K ar F) O M bp (QN ab) nx;refine .vK (s:=Instr.storeAt t (a.eval x) (a.eval y)) ⟨D,?_,r2,r3⟩ λD h=>uu (by simp only[execOp,C]) h
      rw[I];simp[Instr.storeAt,Instr.sureAddr,r1]
     .cases h
    .cases h
   .cases h
  .cases h
 |nilCheck x=>
  rw[C]at hc;obtain⟨N,A,hc⟩:=za hc;cases hc;simp only[xoS]at h;split at h
  .rename_i F;cases h;have T:=K A F;have I:=T.wz.1;exact .pure J (by simp only[execOp,C,I];rfl) (I▸T)
  .rename_i F;cases h;have T:=K A F;obtain⟨b,c,u,I,_⟩:=T.wV;exact .pure J (by simp only[execOp,C,I];rfl) (I▸T)
  .rename_i t' v' F;cases h;have T:=K A F;obtain⟨cv,I⟩:∃cv,a.eval x=.iface t' cv:=by
    generalize a.eval x=cx at T;cases T;exact⟨_,rfl⟩
   exact .pure J (by simp only[execOp,C,I];rfl) (I▸T)
  .rename_i F;cases h;have T:=K A F;obtain⟨u1,u2,I⟩:=T.wO;exact .pure J (by simp only[execOp,C,I];rfl) (I▸T)
  .cases h
 |binOp op t x y u=>rw[C]at hc;exact zVK J hf hg C hc h
 |unOp op t x=>
  rw[C]at hc;obtain⟨N,A,hc⟩:=za hc;cases hc;simp only[xoS]at h;split at h
  .rename_i p F;split at h
   .rename_i r aj;cases h;exact .qq (s:=Op.unary op (a.eval x)) J (zVH (P:=P) (K A F) aj) λr D h=>V (by simp only[execOp,C]) h
   .cases h
  .cases h
 |convert s d x=>rw[C]at hc;exact zUB J hf hg C hc ao h
 |makeInterface t x=>
  rw[C]at hc;obtain⟨N,A,hc⟩:=za hc;have R:af=.w4 t N->P.concrete t=true->zAn P E H w nx (execOp a.eval o) v H' aa:=by
   intro e bm;rw[e]at h;simp only[xoS]at h;split at h
   .rename_i p F;cases h;exact .qq (s:=Instr.makeInterface t (a.eval x)) J ⟨_,run_makeInterface w t _ bm,.iface _ _ _ (K A F)⟩ λr D h=>V (by simp only[execOp,C]) h
   .cases h
  split at hc
  .cases hc
  .rename_i d ae B;cases hc;refine R rfl ?_
   unfold Program.concrete;rw[B];cases d<;>first|rfl|exact absurd rfl (ae _)
  .cases hc
 |makeFunc fn x y=>
  rw[C]at hc;obtain⟨N,A,hc⟩:=za hc;obtain⟨ay,ar,hc⟩:=za hc;cases hc;simp only[xoS]at h;split at h
  .rename_i p q F hq;cases h;have h1:=zC0 hf hg A F;have h2:=zC0 hf hg ar hq;refine .qq (s:=Instr.makeFunc fn (x.map a.eval) (y.map a.eval)) J ⟨_,rfl,.func fn p q _ _ (by have:=h1.1;simpa using this) (by have:=h2.1;simpa using this) (λi u v hu T=>h1.2 i u v hu (by simpa using T)) (λi u v hu T=>h2.2 i u v hu (by simpa using T))⟩
    λr D h=>V (by simp only[execOp,C]) h
  .cases h
 |makeMap t r=>
  rw[C]at hc;simp only[zAN]at hc;split at hc
  .cases hc;cases h;exact .qV (zRO (P:=P) (t:=t) J (ao nx (QA _) (by omega))) λr D h=>V (by simp only[execOp,C];rfl) h
  .cases hc
 |makeSlice t x y=>
  rw[C]at hc;simp only[zAN]at hc;split at hc
  .rename_i e B;obtain⟨N,A,hc⟩:=za hc;obtain⟨ay,ar,hc⟩:=za hc;obtain⟨s,O,hc⟩:=za hc;obtain⟨n,hn,hc⟩:=za hc;obtain⟨z,hz,hc⟩:=za hc;cases s with
   |zero=>cases hc
   |succ s=>
    cases hc;simp only[xoS]at h;split at h
    .rename_i k1 l k2 c hl b4;split at h
     .rename_i q1;split at h
      .rename_i q2;split at h
       .rename_i q3;cases h;have I:=(K A hl).of_int.1;have e2:=(K ar b4).of_int.1;have:=zPn (P:=P) (kl:=k1) (kc:=k2) J (ao nx (QA _) (by omega)) B O hn hz (Qw _) (QN q1) (QN q2) (QN q3)
        exact .qV (s:=Instr.makeSlice t (a.eval x) (a.eval y)) (by rw[I,e2];exact this) λr D h=>V (by simp only[execOp,C]) h
       .cases h
      .cases h
     .cases h
    .cases h
  .cases hc
 |slice t x lo hi mx=>
  rw[C]at hc;obtain⟨N,A,hc⟩:=za hc;obtain⟨al,bf,hc⟩:=za hc;obtain⟨ah,a1,hc⟩:=za hc;obtain⟨am,au,hc⟩:=za hc;have S:∀r D,(Instr.sliceAt t (a.eval x) (lo.map a.eval) (hi.map a.eval) (mx.map a.eval)).run P w=.ok r D->(execOp a.eval o).run P w=.ok (.value r) D:=λr D h=>V (by simp only[execOp,C]) h
  have bg:∀{m:Option XV},zHf mx=some m->m=none->mx=none:=λh1 h2=>by
   cases mx with
   |none=>rfl
   |some m=>subst h2;simp only[zHf]at h1;split at h1<;>cases h1
  split at hc
  .rename_i B;split at hc
   .cases hc;have bh:=bg au rfl;simp only[xoS]at h;split at h
    .rename_i s l u U hl hh;split at h
     .rename_i t' I;split at h
      .rename_i l' e2;cases h;have:=zS9 (P:=P) (w:=w) B (K A U) (zEo hf hg a1 hh) (zEo hf hg bf hl) I e2;rw[bh]at S;exact .qq J this S
      .cases h
     .cases h
    .cases h
   .cases hc
  .rename_i e B;obtain⟨s,O,hc⟩:=za hc;cases s with
   |zero=>cases hc
   |succ s=>
    have R:af=.wy N al ah am (s+1)->(am≠none->ah≠none)->zAn P E H w nx (execOp a.eval o) v H' aa:=by
     intro I bt;rw[I]at h;simp only[xoS]at h;split at h
     .rename_i p l u m U hl hh hm;split at h
      .rename_i r aj;cases h;refine .qq J (zRM (P:=P) (w:=w) B O (Qw _) (K A U) (zEo hf hg a1 hh) (zEo hf hg bf hl) (zEo hf hg au hm) ?_ aj) S
       intro hn b1;refine bt (λe=>hn ?_) ?_
       .rw[bg au e];rfl
       .cases hi with
        |none=>simp only[zHf]at a1;cases a1;rfl
        |some y=>cases b1
      .cases h
     .cases h
    simp only at hc;split at hc
    .cases hc
    .rename_i bz;cases hc;refine R rfl λh1 h2=>?_
     cases am with
     |none=>exact h1 rfl
     |some m=>exact bz m rfl h2
  .rename_i n e B;obtain⟨s,O,hc⟩:=za hc;cases s with
   |zero=>cases hc
   |succ s=>
    simp only at hc;split at hc
    .split at hc
     rotate_left
     .cases hc
     rename_i bu;cases hc;have bh:=bg au rfl;simp only[xoS]at h;split at h
     .rename_i hd off l u U hl hh;split at h
      .rename_i st cs M;split at h
       .rename_i ab;split at h
        .rename_i t' I;split at h
         .rename_i l' e2;cases h;have b6:=QN ab;obtain⟨q1,q2,q3⟩:=zDZ (P:=P) (sl:=false) (w:=w) (zEo hf hg a1 hh) (zEo hf hg bf hl) I e2 (QA _) (QA _);obtain⟨e3,hD⟩:=(K A U).wz;obtain⟨c,e',f,hb,cb,b5⟩:=CR.va (J.obj _ (Heap.qi M));have cd:cs.length<=c.size:=by have:=b5.1;simpa using this
          refine .qq (s:=Instr.sliceAt t (a.eval x) (lo.map a.eval) (hi.map a.eval) (mx.map a.eval)) J ⟨.slice (some (if n=l' then⟨E.ρ hd,off,none⟩else(⟨E.ρ hd,off,none⟩:Addr).add (l'*(s+1)))) (t'-l') (n-l'),?_,?_⟩ S
          .rw[e3,bh];simp[Instr.sliceAt,run_underlying B,Instr.sureAddr,q1,zAk O]
          .by_cases bq:n=l'
           .rw[if_pos bq];have e5:t'-l'=0:=by omega
            have e6:n-l'=0:=by omega
            rw[e5,e6];exact .wm _ _ _ _ _
           .rw[if_neg bq,zAF];have cc:=QN bu;refine .row _ _ _ _ _ _ _ hD (by omega) (by omega) (Qw _) (QA _) (λ_=>rfl) ⟨c,e',f,hb,?_⟩
            have:l'*(s+1)+(n-l')*(s+1)=n*(s+1):=by rw[←Nat.add_mul];congr 1;omega
            omega
         .cases h
        .cases h
       .cases h
      .cases h
     .cases h
    .cases hc
  .cases hc
 |fieldAddr t x i=>
  rw[C]at hc;obtain⟨N,A,hc⟩:=za hc;obtain⟨fs,X,hc⟩:=za hc;obtain⟨f,a8,hc⟩:=za hc;obtain⟨s,O,hc⟩:=za hc;have B:P.underlying t=some (.struct fs):=by
   unfold zLN at X;split at X
   .cases X;assumption
   .cases X
  cases s with
  |zero=>cases hc
  |succ s=>
   cases hc;simp only[xoS]at h;split at h
   .rename_i hd off F;cases h;obtain⟨I,hD⟩:=(K A F).wz;refine .qq (s:=Instr.fieldAt t (a.eval x) i) J ⟨_,by rw[I];exact zLY (P:=P) (w:=w) B a8 O,.ptr _ _ hD⟩ λr D h=>V (by simp only[execOp,C]) h
   .rename_i e off F;cases h;obtain⟨b,c,u,I,q1,q2,q3,q4⟩:=(K A F).wV;refine .qq (s:=Instr.fieldAt t (a.eval x) i) J ⟨_,by rw[I];exact zLY (P:=P) (w:=w) B a8 O,?_⟩ λr D h=>V (by simp only[execOp,C]) h
    rw[Nat.add_assoc];exact .qc e _ b c u q1 q2 q3 q4
   .cases h
 |field t x i=>
  rw[C]at hc;obtain⟨N,A,hc⟩:=za hc;obtain⟨fs,X,hc⟩:=za hc;obtain⟨f,a8,hc⟩:=za hc;obtain⟨s,O,hc⟩:=za hc;obtain⟨g,Y,hc⟩:=za hc;cases hc;have B:P.underlying t=some (.struct fs):=by
   unfold zLN at X;split at X
   .cases X;assumption
   .cases X
  simp only[xoS]at h;split at h
  .rename_i cs F;split at h
   .rename_i r aj;cases h;obtain⟨vs,I,q1,q2⟩:=(K A F).qX;obtain⟨cv,r1,r2⟩:=zNg (P:=P) q1 q2 O Y aj;refine .qq (s:=Instr.field t (a.eval x) i) J ⟨cv,?_,r2⟩ λr D h=>V (by simp only[execOp,C]) h
    rw[I];simp[Instr.field,run_underlying B,a8,asAgg,r1]
   .cases h
  .cases h
 |indexAddr t x i=>
  rw[C]at hc;obtain⟨N,A,hc⟩:=za hc;obtain⟨ai,W,hc⟩:=za hc;have S:∀r D,(Instr.indexAt t (a.eval x) (a.eval i)).run P w=.ok r D->(execOp a.eval o).run P w=.ok (.value r) D:=λr D h=>V (by simp only[execOp,C]) h
  split at hc
  .rename_i e B;obtain⟨s,O,hc⟩:=za hc;cases s with
   |zero=>cases hc
   |succ s=>
    cases hc;simp only[xoS]at h;split at h
    .rename_i bc es p U F;split at h
     .rename_i bi;split at h
      .rename_i y hy;cases h;exact .qq J (zKH (P:=P) B O (K A U) (K W F) (.inl ⟨bc,es,y,rfl,bi,hy,rfl⟩)) S
      .cases h
     .cases h
    .rename_i hd off len bc cp ex p U F;split at h
     .rename_i bi;split at h
      .rename_i y hy;cases h;exact .qq J (zKH (P:=P) B O (K A U) (K W F) (.inr ⟨hd,off,len,bc,cp,ex,y,rfl,bi,hy,rfl⟩)) S
      .cases h
     .cases h
    .cases h
  .rename_i n e B;obtain⟨s,O,hc⟩:=za hc;cases s with
   |zero=>cases hc
   |succ s=>
    cases hc;simp only[xoS]at h;split at h
    .rename_i hd off p U F;split at h
     .rename_i j hj;cases h;obtain⟨I,hD⟩:=(K A U).wz;refine .qq (s:=Instr.indexAt t (a.eval x) (a.eval i)) J ⟨_,by rw[I];exact zKG (P:=P) B O (K W F) hj,?_⟩ S
      rw[zAF];exact .ptr _ _ hD
     .cases h
    .rename_i e' off p U F;split at h
     .rename_i j hj;cases h;obtain⟨b,c,u,I,q1,q2,q3,q4⟩:=(K A U).wV;refine .qq (s:=Instr.indexAt t (a.eval x) (a.eval i)) J ⟨_,by rw[I];exact zKG (P:=P) B O (K W F) hj,?_⟩ S
      rw[zAF,Nat.add_assoc];exact .qc e' _ b c u q1 q2 q3 q4
     .cases h
    .cases h
  .cases hc
 |index t x i=>
  rw[C]at hc;obtain⟨N,A,hc⟩:=za hc;obtain⟨ai,W,hc⟩:=za hc;have S:∀r D,(Instr.index t (a.eval x) (a.eval i)).run P w=.ok r D->(execOp a.eval o).run P w=.ok (.value r) D:=λr D h=>V (by simp only[execOp,C]) h
  split at hc
  .rename_i B;cases hc;simp only[xoS]at h;split at h
   .rename_i s k n U hn;split at h
    .rename_i b hb;cases h;obtain⟨I,_⟩:=(K W hn).of_int;refine .qq (s:=Instr.index t (a.eval x) (a.eval i)) J ?_ S
     rw[I];exact zTa (P:=P) B (K A U) hb
    .cases h
   .cases h
  .rename_i n e B;obtain⟨s,O,hc⟩:=za hc;obtain⟨g,Y,hc⟩:=za hc;cases hc;simp only[xoS]at h;split at h
   .rename_i cs p U F;split at h
    .rename_i j hj;split at h
     .rename_i r aj;cases h;exact .qq J (zTb (P:=P) B O Y (K A U) (K W F) hj aj) S
     .cases h
    .cases h
   .cases h
  .cases hc
 |lookup t x i ok=>
  rw[C]at hc;obtain⟨N,A,hc⟩:=za hc;obtain⟨ai,W,hc⟩:=za hc;split at hc
  .rename_i kt et B;obtain⟨q,hq,hc⟩:=za hc;obtain⟨z,hz,hc⟩:=za hc;cases hc;unfold zMG at hq;obtain⟨ks,bj,hq⟩:=za hq;obtain⟨ag,Y,hq⟩:=za hq;cases hq;simp only[xoS]at h;split at h
   .rename_i m k hm hk;split at h
    .cases h
    rename_i be;have R:=λhh=>zQN (P:=P) (ok:=ok) (v:=v) J B bj Y hz (K A hm) (K W hk) be hh
    have S:∀r D,(Instr.lookup t (a.eval x) (a.eval i) ok).run P w=.ok r D->(execOp a.eval o).run P w=.ok (.value r) D:=λr D h=>V (by simp only[execOp,C]) h
    split at h
    .cases h;exact .qq J (R (.inl ⟨rfl,rfl⟩)) S
    .split at h
     .rename_i es M;split at h
      .rename_i u hu;cases h;exact .qq J (R (.inr ⟨_,es,some u,rfl,M,hu,rfl⟩)) S
      .rename_i hu;cases h;exact .qq J (R (.inr ⟨_,es,none,rfl,M,hu,rfl⟩)) S
      .cases h
     .cases h
    .cases h
   .cases h
  .cases hc
 |range t x=>
  rw[C]at hc;obtain⟨N,A,hc⟩:=za hc;split at hc
  .rename_i B;cases hc;simp only[xoS]at h;split at h
   .rename_i s O;cases h;exact .qV (zTc (P:=P) J (ao nx (QA _) (by omega)) (K A O) B) λr D h=>V (by simp only[execOp,C]) h
   .cases h
  .cases hc
 |next it b=>
  rw[C]at hc;cases b with
  |false=>cases hc
  |true=>
   obtain⟨N,A,hc⟩:=za hc;cases hc;simp only[xoS]at h;split at h
   .rename_i hd F;obtain⟨I,hD⟩:=(K A F).wz;have S:∀r D,(Instr.next (.pointer (some ⟨E.ρ hd,0,none⟩)) true o.type).run P w=.ok r D->(execOp a.eval o).run P w=.ok (.value r) D:=λr D h=>V (by simp only[execOp,C,I]) h
    split at h
    .rename_i s pos M;split at h
     .rename_i ab;split at h
      .rename_i aw;split at h
       .rename_i b hb;cases h;exact .qV (zL0 (P:=P) J hD M (QN ab) (.inl ⟨by rw[Qg]at aw;exact aw,b,hb,rfl,rfl⟩)) S
       .cases h
      .rename_i aw;cases h;exact .qV (zL0 (P:=P) J hD M (QN ab) (.inr ⟨(λhh=>by
        have:Nat.blt pos s.length=true:=by rw[Qg];exact hh
        rw[this]at aw;cases aw),rfl,rfl⟩)) S
     .cases h
    .cases h
   .cases h
 |typeAssert x t u ok=>
  rw[C]at hc;obtain⟨N,A,hc⟩:=za hc;obtain⟨z,hz,hc⟩:=za hc;obtain⟨cz,z1,z2⟩:=zLW (w:=w) hz;have S:∀r D,(Instr.typeAssert (a.eval x) t u ok).run P w=.ok r D->(execOp a.eval o).run P w=.ok (.value r) D:=λr D h=>V (by simp only[execOp,C]) h
  have R:∀d,P.underlying u=some d->(∀ms,d≠.interface ms)->af=.vT N u ok z->zAn P E H w nx (execOp a.eval o) v H' aa:=by
   intro d B ae I;rw[I]at h;simp only[xoS]at h;split at h
   .rename_i t' y F;have T:=K A F;obtain⟨cy,e2,hy⟩:∃cy,a.eval x=.iface t' cy/\VR E w y cy:=by
     generalize a.eval x=cx at T;cases T;exact⟨_,rfl,by assumption⟩
    split at h
    .rename_i a7;have:=zb a7;subst this;cases h;refine .qq (s:=Instr.typeAssert (a.eval x) t t' ok) J ?_ S
     rw[e2];cases ok
     .refine⟨cy,?_,hy⟩
      cases d<;>first|exact absurd rfl (ae _)|simp[Instr.typeAssert,run_underlying B]
     .refine⟨.tuple #[cy,.bool true],?_,zHl hy⟩
      cases d<;>first|exact absurd rfl (ae _)|simp[Instr.typeAssert,run_underlying B]
    .rename_i a7;split at h
     .cases h;have bs:¬t'=u:=λe=>by rw[e,Nat.beq_refl]at a7;cases a7
      refine .qq (s:=Instr.typeAssert (a.eval x) t u true) J ⟨.tuple #[cz,.bool false],?_,zHl z2⟩ S
      rw[e2];cases d<;>first|exact absurd rfl (ae _)|simp[Instr.typeAssert,run_underlying B,bs,z1]
     .cases h
   .rename_i F;have T:=K A F;have e2:a.eval x=.nilIface:=by
     generalize a.eval x=cx at T;cases T;rfl
    split at h
    .cases h;refine .qq (s:=Instr.typeAssert (a.eval x) t u true) J ⟨.tuple #[cz,.bool false],?_,zHl z2⟩ S
     rw[e2];cases d<;>first|exact absurd rfl (ae _)|simp[Instr.typeAssert,run_underlying B,z1]
    .cases h
   .cases h
  split at hc
  .cases hc
  .rename_i d ae B;cases hc;exact R d B (λms e=>ae ms e) rfl
  .cases hc
 |extract t i=>
  rw[C]at hc;obtain⟨N,A,hc⟩:=za hc;cases hc;simp only[xoS]at h;split at h
  .rename_i vs F;split at h
   .rename_i u hu;cases h;obtain⟨us,I,T⟩:=(K A F).w5;obtain⟨cv,r1,r2⟩:=T.getElem? hu;have bv:us[i]?=some cv:=by simpa using r1
    refine .qq (s:=Instr.extract (a.eval t) i) J ⟨cv,?_,r2⟩ λr D h=>V (by simp only[execOp,C]) h
    rw[I];simp[Instr.extract,bv]
   .cases h
  .cases h
 |call c=>exact absurd C (b0 c)
 |_=>rw[C]at hc;cases hc
end
def FnT(P:Program)(G:Cx)(f:FuncId)(args:JE)(H:Heap)(nx:Nat)(v:AV)(H':Heap)(c:Nat):Prop:=
 ∀(E:Env)(w:World)(b:JB),HR E H w->VRs E w args b.toList->GR G E w->zDL E nx c →
  Calls P f b w λe h=>∃j g,e=.returned j/\HR g H' h/\Tr E H w g H' h nx c/\VR g h v j
def Enters(P:Program)(f:FuncId):Prop:=∃fn b,P.funcs[f]?=some fn/\fn.body=some b/\(fn.name == "runtime.NumGoroutine")=false
def zEp(P:Program)(G:Cx)(call:Sy.Call):Prop:=∀f args H nx v c b,call f args H nx=some (v,c,b)->Enters P f/\nx<=b/\FnT P G f args H nx v c b
def zAr(P:Program)(G:Cx):Prop:=∀t m f,G.uA t m=some f->∀(v:Value)(w:World),(method (P.types.size+Made.depth) t v m).run P w=.ok (f,v) w
theorem zC1{P:Program}{G:Cx}:zEp P G zd:=λ_ _ _ _ _ _ _ h=>by cases h
section
variable{P:Program}{G:Cx}{E:Env}{w:World}{fr:Fr}{a:Act}{nt:Nat}{H:Heap}{nx:Nat}
def OpT(P:Program)(o:Oper)(a:Act)(E:Env)(H:Heap)(w:World)(nx:Nat)(v:AV)(H':Heap)(c:Nat):Prop:=
 ∀(next:Act->World->Prop)(Q:Exit->Act->World->Prop),(∀f e b,HR e H' b->Tr E H w e H' b nx c->VR e b v f->next (a.put o.dst f) b)->o.wp P a w next Q
theorem OpT.vy{o:Oper}{v:AV}{H':Heap}{b:Nat}(h:zAn P E H w nx (execOp a.eval o) v H' b):OpT P o a E H w nx v H' b:=by
 intro next Q k;obtain⟨m,e,f,h1,g,j,c|⟨c,l⟩⟩:=h
 .unfold Oper.wp;rw[c];exact k m e f h1 g j
 .unfold Oper.wp;rw[c];subst l;exact k _ e f h1 g j
theorem OpT.vL{o:Oper}{v:AV}{H':Heap}{b:Nat}{f:FuncId}{args:JE}{cargs:JB}(p:HR E H w)(l:GR G E w)(c:zDL E nx b)(s:VRs E w args cargs.toList)(k:FnT P G f args H nx v H' b)
  (t:(execOp a.eval o).run P w=.ok (.enter f cargs) w):OpT P o a E H w nx v H' b:=by
 intro next Q r;unfold Oper.wp;rw[t];refine(k E w cargs p s l c).mono λe g h=>?_
 obtain⟨m,n,rfl,h1,j,q⟩:=h;exact r m n g h1 j q
theorem zHM{f:FuncId}{args:JB}(h:Enters P f):(callFunc f args).run P w=.ok (.enter f args) w:=by
 obtain⟨fn,b,h1,c,g⟩:=h;have e:¬fn.name = "runtime.NumGoroutine":=by simpa using g
 simp[callFunc,h1,c,e]
theorem zSy(c:UInt8):∀(l:List UInt8)(i:Nat),zMF c.toNat i (l.map UInt8.toNat)=if Lib.indexByte l c=-1 then -1 else Lib.indexByte l c+(i:Int)
 |[],i=>by simp[zMF,Lib.indexByte]
 |a::l,i=>by
  simp only[Qa,zMF,Lib.indexByte];by_cases e:a=c
  .subst e;have:Nat.beq a.toNat a.toNat=true:=Nat.beq_refl _;simp[this]
  .have h1:Nat.beq a.toNat c.toNat=false:=by
    cases h:Nat.beq a.toNat c.toNat with
    |false=>rfl
    |true=>exact absurd (UInt8.toNat_inj.1 (zb h)) e
   have g:(a==c)=false:=by simpa using e
   have m:=Lib.indexByte_ge l c;have f:=zSy c l (i+1);simp only[h1,g];rw[f];by_cases b:Lib.indexByte l c=-1
   .simp[b]
   .have k:(Lib.indexByte l c==-1)=false:=by simpa using b
    have j:¬(Lib.indexByte l c+1=-1):=by omega
    simp[b,j];omega
theorem zKK(c:UInt8):∀l:List UInt8,Lib.indexByte l c<l.length\/Lib.indexByte l c=-1
 |[]=>.inr rfl
 |a::l=>by
  simp only[Lib.indexByte,QZ];split
  .left;omega
  .split
   .exact .inr rfl
   .rename_i h;have b:¬Lib.indexByte l c=-1:=by simpa using h
    rcases zKK c l with h1|h1
    .left;omega
    .exact absurd h1 b
theorem zSz(c:UInt8):∀l:List UInt8,zOw c.toNat (l.map UInt8.toNat)=Lib.countByte l c
 |[]=>rfl
 |a::l=>by
  have b:=zSz c l;simp only[Qa,zOw,Lib.countByte,List.count_cons]at b⊢;by_cases e:a=c
  .subst e;have:Nat.beq a.toNat a.toNat=true:=Nat.beq_refl _;simp[this,b]
  .have h1:Nat.beq a.toNat c.toNat=false:=by
    cases h:Nat.beq a.toNat c.toNat with
    |false=>rfl
    |true=>exact absurd (UInt8.toNat_inj.1 (zb h)) e
   simp[h1,b,e]
theorem zNn {fn:Func} (h:fn.name = "internal/bytealg.IndexByteString") (ho:fn.origin = ""):Extern.findNext fn=none/\Extern.find fn=some Extern.BytealgIndexByte.indexByte:=by
 have c:Extern.allGenericRows.lookup "internal/bytealg.IndexByteString"=none:=by kernel_rfl
 have g:Extern.allTypedRows.lookup "internal/bytealg.IndexByteString"=none:=by kernel_rfl
 have e:Extern.allRows.lookup "internal/bytealg.IndexByteString"=some Extern.BytealgIndexByte.indexByte:=by kernel_rfl
 have f:Extern.allNextRows.lookup "internal/bytealg.IndexByteString"=none:=by kernel_rfl
 have b:Extern.allNextRows.lookup ""=none:=by kernel_rfl
 exact⟨by simp only[Extern.findNext,h,ho,f,b];rfl,by simp only[Extern.find,h,c,g,e];rfl⟩
theorem zNo {fn:Func} (h:fn.name = "internal/bytealg.CountString") (ho:fn.origin = ""):Extern.findNext fn=none/\Extern.find fn=some Extern.BytealgCount.count:=by
 have c:Extern.allGenericRows.lookup "internal/bytealg.CountString"=none:=by kernel_rfl
 have g:Extern.allTypedRows.lookup "internal/bytealg.CountString"=none:=by kernel_rfl
 have e:Extern.allRows.lookup "internal/bytealg.CountString"=some Extern.BytealgCount.count:=by kernel_rfl
 have f:Extern.allNextRows.lookup "internal/bytealg.CountString"=none:=by kernel_rfl
 have b:Extern.allNextRows.lookup ""=none:=by kernel_rfl
 exact⟨by simp only[Extern.findNext,h,ho,f,b];rfl,by simp only[Extern.find,h,c,g,e];rfl⟩
theorem zSA{b:Nat}(h:has .u8 (Int.ofNat b)):((Int.ofNat b).toNat.toUInt8).toNat=b:=by
 have c:(Int.ofNat b)<=255:=h.2;have e:b<=255:=by
  have:(b:Int)<=255:=c;omega
 show(b.toUInt8).toNat=b
 rw[Nat.toUInt8_eq,UInt8.toNat_ofNat'];omega
theorem zQQ(Q:HR E H w)(W:FrR E w fr a nt)(T:GR G E w){v:AV}{H':Heap}{C:Nat}{o:Oper}{f:FuncId}{fn:Func}{args:Array Operand}{ts:Array TypeId}{as:List XV}{I:XO}{call:Sy.Call}
  (ho:o.op=.call ⟨.value (.func f),args,ts⟩) (O:P.funcs[f]?=some fn) (S:fn.body=none) (B:zDK args.toList=some as) (hc:zWc fn as=some I) (h:xoS G call fr H nx I=some (v,H',C)):
  zAn P E H w nx (execOp a.eval o) v H' C:=by
 have N:fn.body.isNone=true:=by rw[S];rfl
 unfold zWc at hc;split at hc
 rotate_left
 .cases hc
 rename_i x y k;have k:fn.origin = "":=by simpa using k
 have m:∀{p q:AV}{e:JB->Sem Value},x.ev G fr=some p->y.ev G fr=some q->(fn.name == "runtime.NumGoroutine")=false->Extern.findNext fn=none->Extern.find fn=some e →
   ∃t n,VR E w p t/\VR E w q n/\∀r K,(e #[t,n]).run P w=.ok r K->(execOp a.eval o).run P w=.ok (.value r) K:=by
  intro p q e V U Y h1 R;have F:=zC0 W T B (show evs G fr [x,y]=some [p,q] by simp only[evs,V,U])
  obtain⟨t,l1,J,v1,F⟩:=F.of_cons;obtain⟨n,l2,rfl,v2,F⟩:=F.of_cons;rw[F.of_nil]at J;refine⟨t,n,v1,v2,λr K D=>?_⟩
  have ea:args.map a.eval=#[t,n]:=by
   apply Array.ext'
   simpa using J
  simp only[execOp,ho,resolve,Sem.run_bind,ea,Act.eval,Deferred.ofValue,Sem.run_pure,Result.andThen_ok,invoke];have:=run_callFunc_extern (P:=P) O Y N h1 R #[t,n] w;rw[D]at this
  simpa using this
 split at hc
 .rename_i c;have c:fn.name = "internal/bytealg.IndexByteString":=by simpa using c
  cases hc;simp only[xoS]at h;split at h
  .rename_i s b M u;cases h;obtain⟨t,n,v1,v2,D⟩:=m M u (by rw[c];rfl) (zNn c k).1 (zNn c k).2
   obtain⟨j,rfl,l,g⟩:=v1.q9;obtain⟨rfl,z⟩:=v2.of_int;refine .pure Q (D _ _ (Lib.run_indexByteString j _ w)) ?_
   have A:=zSy ((Int.ofNat b).toNat.toUInt8) j.data.toList 0;rw[zSA z,l]at A;have J:zMF b 0 s=Lib.indexByte j.data.toList ((Int.ofNat b).toNat.toUInt8):=by
    rw[A];split
    .rename_i h1;exact h1.symm
    .simp
   rw[J];refine .int _ _ ⟨?_,?_⟩
   .have:=Lib.indexByte_ge j.data.toList ((Int.ofNat b).toNat.toUInt8);show(-9223372036854775808:Int)<=_
    omega
   .show _<=(9223372036854775807:Int)
    have X:j.data.toList.length<=9223372036854775807:=by rw[←l]at g;simpa[zf]using g
    rcases zKK ((Int.ofNat b).toNat.toUInt8) j.data.toList with h1|h1<;>omega
  .cases h
 .split at hc
  .rename_i c;have c:fn.name = "internal/bytealg.CountString":=by simpa using c
   cases hc;simp only[xoS]at h;split at h
   .rename_i s b M u;cases h;obtain⟨t,n,v1,v2,D⟩:=m M u (by rw[c];rfl) (zNo c k).1 (zNo c k).2
    obtain⟨j,rfl,l,g⟩:=v1.q9;obtain⟨rfl,z⟩:=v2.of_int;refine .pure Q (D _ _ (Lib.run_countString j _ w)) ?_
    have A:=zSz ((Int.ofNat b).toNat.toUInt8) j.data.toList;rw[zSA z,l]at A;rw[A];refine .int _ _ ⟨?_,?_⟩
    .show(-9223372036854775808:Int)<=((Lib.countByte j.data.toList ((Int.ofNat b).toNat.toUInt8):Nat):Int)
     omega
    .show((Lib.countByte j.data.toList ((Int.ofNat b).toNat.toUInt8):Nat):Int)<=(9223372036854775807:Int)
     have X:j.data.toList.length<=9223372036854775807:=by rw[←l]at g;simpa[zf]using g
     have:Lib.countByte j.data.toList ((Int.ofNat b).toNat.toUInt8)<=j.data.toList.length:=List.count_le_length;omega
   .cases h
  .cases hc
theorem zUC(J:HR E H w)(I:FrR E w fr a nt)(s:GR G E w)(hm:zAr P G){v:AV}{H':Heap}{l:Nat}{o:Oper}{c:Go.Call}{C:XO}{call:Sy.Call}(p:zEp P G call)(ho:o.op=.call c)(hc:zAN P o.op=some C)
  (B:zDL E nx l) (h:xoS G call fr H nx C=some (v,H',l)):OpT P o a E H w nx v H' l:=by
 obtain⟨callee,args,ts⟩:=c;rw[ho]at hc;have y:∀{x:Operand}{ax:XV}{as:List XV}{f:Nat}{first k D:JE},callee=.value x->zw x=some ax->zDK args.toList=some as->ax.ev G fr=some (.func (.func f) first k)->evs G fr as=some D →
   call f (first++D++k) H nx=some (v,H',l)->OpT P o a E H w nx v H' l:=by
  intro x ax as f first k D N O e3 e4 e5 e6;subst N;obtain⟨c1,_,c2⟩:=p _ _ _ _ _ _ _ e6;have q:=zC I s O e4;generalize z:a.eval x=cx at q;cases q with
  |func _ _ _ X Y U W rf rc=>
   have j:=zC0 I s e3 e5;have h1:VRs E w first X.toList:=⟨by simpa using U,λi x v hx q=>rf i x v hx (by simpa using q)⟩
   have h2:VRs E w k Y.toList:=⟨by simpa using W,λi x v hx q=>rc i x v hx (by simpa using q)⟩
   refine .vL (cargs:=X++args.map a.eval++Y) J s B (by simpa using(h1.append j).append h2) c2 ?_
   simp only[execOp,ho,resolve,Sem.run_bind,z,Deferred.ofValue,Sem.run_pure,Result.andThen_ok,invoke];exact zHM c1
 cases callee with
 |builtin b=>exact .vy (zKJ J I s ho hc B h)
 |value x=>
  have gen:∀{hx:∃ax,zw x=some ax/\∃as,zDK args.toList=some as/\C=.qN ax as},OpT P o a E H w nx v H' l:=by
   rintro ⟨ax,A,as,has,e⟩
   rw[e]at h;simp only[xoS]at h;split at h
   .rename_i fv D T n;unfold zEZ at h;split at h
    .exact y rfl A has T n h
    .cases h
   .cases h
  cases x with
  |func f=>
   simp only[zAN]at hc;split at hc
   .rename_i fn Q;split at hc
    .obtain⟨as,has,hc⟩:=za hc;cases hc;simp only[xoS]at h;split at h
     .rename_i D n;exact y (x:=.func f) (ax:=.c (.func (.func f) [] [])) rfl rfl has rfl n (by simpa using h)
     .cases h
    .rename_i V;obtain⟨as,has,hc⟩:=za hc;exact .vy (zQQ J I s ho Q V has hc h)
   .cases hc
  |tmp t=>
   obtain⟨as,has,hc⟩:=za hc;cases hc;exact gen (hx:=⟨_,rfl,as,has,rfl⟩)
  |const aa=>
   obtain⟨ax,A,hc⟩:=za hc;obtain⟨as,has,hc⟩:=za hc;cases hc;exact gen (hx:=⟨ax,A,as,has,rfl⟩)
  |global g=>
   obtain⟨as,has,hc⟩:=za hc;cases hc;exact gen (hx:=⟨_,rfl,as,has,rfl⟩)
 |invoke r m=>
  obtain⟨ar,M,hc⟩:=za hc;obtain⟨as,has,hc⟩:=za hc;cases hc;simp only[xoS]at h;split at h
  .rename_i t u D K n;split at h
   .rename_i f S;obtain⟨c1,_,c2⟩:=p _ _ _ _ _ _ _ h;have q:=zC I s M K;generalize z:a.eval r=cx at q;cases q with
    |iface _ _ F hu=>
     have j:=zC0 I s has n;refine .vL (cargs:=#[F]++args.map a.eval) J s B (by simpa using VRs.cons hu j) c2 ?_
     have R:=hm t m f S F w;simp only[execOp,ho,resolve,Sem.run_bind,z,Sem.run_pure,Result.andThen_ok,invoke];have N:(#[Value.iface t F]++args.map a.eval)[0]?=some (.iface t F):=by
      simp[Array.getElem?_append]
     have O:(#[Value.iface t F]++args.map a.eval).extract 1 (#[Value.iface t F]++args.map a.eval).size=args.map a.eval:=by
      apply Array.ext';simp[List.take_of_length_le]
     simp only[N,O,callMethod,Sem.run_bind,run_program,Result.andThen_ok,R];exact zHM c1
   .cases h
  .cases h
theorem zEq(l:HR E H w)(k:FrR E w fr a nt)(m:GR G E w)(hm:zAr P G){v:AV}{H':Heap}{b:Nat}{o:Oper}{j:XO}{call:Sy.Call}(e:zEp P G call)(hc:zAN P o.op=some j)
  (g:zDL E nx b) (h:xoS G call fr H nx j=some (v,H',b)):OpT P o a E H w nx v H' b:=by
 by_cases f:∃c,o.op=.call c
 .obtain⟨c,n⟩:=f;exact zUC l k m hm e n hc g h
 .exact .vy (zSx l k m (λc h=>f ⟨c,h⟩) hc g h)
end
def zDR(call:Call):Prop:=∀f args H nx v c b,call f args H nx=some (v,c,b)->nx<=b
theorem zEp.le{P:Program}{G:Cx}{call:Call}(h:zEp P G call):zDR call:=λf args H nx v c b e=>(h f args H nx v c b e).2.1
theorem zTf{H:Heap}{nx:Nat}{s y:AV}{sz bytes:Nat}{v:AV}{H':Heap}{b:Nat}(h:zAK H nx s y sz bytes=some (v,H',b)):nx<=b:=by
 unfold zAK at h
 repeat' split at h
 all_goals first
  |(cases h;done)
  |(cases h;exact QA _)
  |(cases h;exact QT _)
theorem zVL{H:Heap}{nx:Nat}{d y:AV}{sz:Nat}{v:AV}{H':Heap}{b:Nat}(h:zLM H nx d y sz=some (v,H',b)):nx<=b:=by
 unfold zLM at h
 repeat' split at h
 all_goals first
  |(cases h;done)
  |(cases h;exact QA _)
set_option maxHeartbeats 1000000 in
theorem zTg{G:Cx}{call:Call}{fr:Fr}{H:Heap}{nx:Nat}{o:XO}{v:AV}{H':Heap}{b:Nat}(hc:zDR call)(h:xoS G call fr H nx o=some (v,H',b)):nx<=b:=by
 cases o<;>simp only[xoS]at h
 all_goals (repeat' split at h)
 all_goals first
  |(cases h;done)
  |(cases h;exact QA _)
  |(cases h;exact QT _)
  |exact zTf h
  |exact zVL h
  |exact hc _ _ _ _ _ _ _ h
  |(unfold zEZ at h;split at h<;>first|exact hc _ _ _ _ _ _ _ h|(cases h;done))
theorem zSB{G:Cx}{call:Call}{fr:Fr}{H:Heap}{nx:Nat}{o:XO}{v:AV}{H':Heap}{b:Nat}(hk:zP o=1)(h:xoS G call fr H nx o=some (v,H',b)):H'=H/\b=nx:=by
 cases o<;>first|(cases hk;done)|skip
 all_goals simp only[xoS]at h
 all_goals (repeat' split at h)
 all_goals first
  |(cases h;done)
  |(cases h;exact⟨rfl,rfl⟩)
theorem zNp{f:AV->AV->Bool}(c:∀a b,f a b=true->a=b):∀{x y:JE},zDp f x y=true->x=y
 |[],[],_=>rfl
 |a::x,b::y,h=>by
  simp only[zDp]at h;split at h
  .rename_i e;rw[c a b e,zNp c h]
  .cases h
 |[],_::_,h=>by simp[zDp]at h
 |_::_,[],h=>by simp[zDp]at h
theorem zKL:∀(d:Nat)(a b:AV),qW d a b=true->a=b:=by
 intro d
 induction d with
 |zero=>intro a b h;simp[qW]at h
 |succ d f=>
  intro a b h;have c:∀{x y:JE},zDp (qW d) x y=true->x=y:=zNp f;unfold qW at h;split at h
  case h_2=>
   split at h
   .rename_i e;have:=zFb e;have h:=eq_of_beq h;subst this;subst h;rfl
   .cases h
  case h_3=>rw[zOg h]
  all_goals first
   |(cases h;done)
   |rfl
   |(simp only[qr,beq_iff_eq]at h)
   |skip
  .rw[h]
  .rw[zb h.1,zb h.2]
  .rw[f _ _ h.1,zb h.2]
  .rw[zb h.1,c h.2]
  .obtain⟨⟨⟨⟨⟨h1,j⟩,m⟩,k⟩,l⟩,g⟩:=h;rw[zb h1,zb j,zb m,zb k,zb l,g]
  .rw[zb h]
  .rw[zb h.1.1,c h.1.2,c h.2]
  .rw[zb h.1,f _ _ h.2]
  .rw[c h]
  .rw[c h]
  .rw[zb h]
structure vU(E:Env)(H:Heap)(w:World)(E':Env)(H':Heap)(w':World)(N:Nat->Prop):Prop where
 agree:∀h,E.D h->E'.ρ h=E.ρ h
 qx:∀h,E'.D h↔E.D h\/N h
 qH:∀x,E.Z x->E'.Z x
 qP:∀x,E'.Z x->E.Z x\/(∃p∈H,E.ρ p.1=x)\/w.heap.size<=x
 own:∀p∈H',(∃q∈H,E.ρ q.1=E'.ρ p.1)\/w.heap.size<=E'.ρ p.1
 tape:w'.tape=w.tape
 os:w'.os=w.os
 output:w'.output=w.output
 size:w.heap.size<=w'.heap.size
 wh:∀x,x<w.heap.size->(∀p∈H,E.ρ p.1≠x)->w'.heap[x]? = w.heap[x]?
 qn:z7 w w'
 sig:E'.σ=E.σ:=by rfl
theorem vU.step{E:Env}{H:Heap}{w:World}{m:Env}{j:Heap}{w1:World}{E2:Env}{H2:Heap}{n:World}{N l:Nat->Prop}{a b:Nat}
  (h:vU E H w m j w1 N) (k:Tr m j w1 E2 H2 n a b) (s:∀h,l h↔N h\/(a<=h/\h<b)):vU E H w E2 H2 n l where
 agree x hx:=(k.agree x ((h.qx x).2 (.inl hx))).trans (h.agree x hx)
 qx x:=by rw[k.qx,h.qx,s,or_assoc]
 qH x hx:=k.qH x (h.qH x hx)
 qP x hx:=by
  rcases k.qP x hx with h1|⟨p,c,rfl⟩|h1
  .exact h.qP x h1
  .exact .inr (h.own p c)
  .exact .inr (.inr (QI h.size h1))
 own p c:=by
  rcases k.own p c with⟨q,g,e⟩|h1
  .rw[←e];exact h.own q g
  .exact .inr (QI h.size h1)
 tape:=k.tape.trans h.tape
 os:=k.os.trans h.os
 output:=k.output.trans h.output
 size:=QI h.size k.size
 wh x hx c:=by
  rw[k.wh x (QX hx h.size) λp f e=>by
   rcases h.own p f with⟨q,g,r⟩|h1
   .exact c q g (r.trans e)
   .omega]
  exact h.wh x hx c
 qn:=h.qn.trans k.qn
 sig:=k.sig.trans h.sig
theorem vU.vW{E:Env}{H:Heap}{w:World}{E':Env}{H':Heap}{w':World}{a b:Nat}(h:Tr E H w E' H' w' a b){N:Nat->Prop}(c:∀h,N h↔(a<=h/\h<b)):vU E H w E' H' w' N:=
 ⟨h.agree,λx=>by rw[h.qx,c],h.qH,h.qP,h.own,h.tape,h.os,h.output,h.size,h.wh,h.qn,h.sig⟩
theorem vU.uH{E:Env}{H:Heap}{w:World}{E':Env}{H':Heap}{w':World}{a b:Nat}{N:Nat->Prop}(h:vU E H w E' H' w' N)(c:a<=b)(e:∀h,N h↔(a<=h/\h<b)):Tr E H w E' H' w' a b:=
 ⟨c,h.agree,λx=>by rw[h.qx,e],h.qH,h.qP,h.own,h.tape,h.os,h.output,h.size,h.wh,h.qn,h.sig⟩
theorem vU.vr{E:Env}{H:Heap}{w:World}{E':Env}{H':Heap}{w':World}{N:Nat->Prop}(c:HR E H w)(h:vU E H w E' H' w' N){v:AV}{cv:Value}(g:VR E w v cv):VR E' w' v cv:=
 g.mono (λx b=>⟨(h.qx x).2 (.inl b),h.agree x b⟩)
  (λx b=>⟨h.qH x b,h.wh x (c.we x b) λp f e=>c.nz p f (e▸b)⟩) h.qn h.sig
section
theorem zCs{f g:Nat->Bool}:∀{al:List (Nat×Nat×HO)},(∀x∈al,f x.1=g x.1)->within f al=within g al
 |[],_=>rfl
 |(i,h,o)::r,b=>by
  have h1:f i=g i:=b _ (.head _);simp only[within,h1,zCs λx c=>b x (.tail _ c)]
theorem zDS{f:Nat->Bool}:∀{a b:List (Nat×Nat×HO)},within f (a++b)=within f a++within f b
 |[],_=>rfl
 |(i,h,o)::r,b=>by
  simp only[List.cons_append,within];split
  .rw[zDS];rfl
  .rw[zDS]
theorem zC2{f:Nat->Bool}:∀{al:List (Nat×Nat×HO)},(∀x∈al,f x.1=false)->within f al=[]
 |[],_=>rfl
 |(i,h,o)::r,b=>by
  have h1:f i=false:=b _ (.head _);simp only[within,h1];exact zC2 λx c=>b x (.tail _ c)
theorem zHN{f g:Nat->Bool}:∀{al:List (Nat×Nat×HO)},(∀x∈al,g x.1=true->f x.1=true)->(within f al).Perm (within g al++within (λi=>f i&&!g i) al)
 |[],_=>.refl _
 |(i,h,o)::r,c=>by
  have b:=zHN λx e=>c x (.tail _ e)
  have h1:g i=true->f i=true:=c _ (.head _);simp only[within];cases hf:f i<;>cases hg:g i
  .simpa using b
  .exact absurd (h1 hg) (by simp[hf])
  .simpa using(b.cons (h,o)).trans List.perm_middle.symm
  .simpa using b.cons (h,o)
theorem zFL{mask:Nat}:∀{al:List (Nat×Nat×HO)}{j:Nat},(zA0 mask al).testBit j=true↔mask.testBit j=true/\∃x∈al,x.1=j
 |[],j=>by simp[zA0]
 |(i,h,o)::r,j=>by
  simp only[zA0];have c:=zFL (mask:=mask) (al:=r) (j:=j);split
  .rename_i b;rw[Nat.testBit_or,Bool.or_eq_true,Nat.testBit_two_pow,c];simp only[decide_eq_true_eq,QG,exists_eq_or_imp]
   constructor
   .rintro (h|⟨h1,h2⟩)
    .subst h;exact⟨b,.inl rfl⟩
    .exact⟨h1,.inr h2⟩
   .rintro ⟨h1,h|h⟩
    .exact .inl h
    .exact .inr ⟨h1,h⟩
  .rename_i b;rw[c];simp only[QG,exists_eq_or_imp]
   constructor
   .rintro ⟨h1,h2⟩;exact⟨h1,.inr h2⟩
   .rintro ⟨h1,h|h⟩
    .exact absurd h1 (by rw[←h];simp[b])
    .exact⟨h1,h⟩
theorem zMr:∀{ts:JV}{fr:Fr}{t:Nat}{v:AV},(only ts fr).get t=some v->t∈ts/\fr.get t=some v
 |[],_,_,_,h=>by simp[only,Fr.get]at h
 |f::ts,fr,t,v,h=>by
  simp only[only]at h;split at h
  .rename_i u c;simp only[Fr.get]at h;split at h
   .rename_i e;cases h;rw[←zb e];exact⟨.head _,c⟩
   .exact let ⟨a,b⟩:=zMr h;⟨.tail _ a,b⟩
  .exact let ⟨a,b⟩:=zMr h;⟨.tail _ a,b⟩
theorem Fr.qu:∀(fr:Fr)(n:Nat)(v:AV)(t:Nat),(fr.put n v).get t=if n=t then some v else fr.get t
 |[],n,v,t=>by
  simp only[Fr.put,Fr.get];split
  .rename_i e;simp[zb e]
  .rename_i e;simp[zAq e]
 |(k,u)::r,n,v,t=>by
  simp only[Fr.put];split
  .rename_i e;have e:=zb e;subst e;simp only[Fr.get];split
   .rename_i e;simp[zb e]
   .rename_i e;simp[zAq e]
  .rename_i e;simp only[Fr.get,Fr.qu r n v t];split
   .rename_i b;have:=zAq e;have b:=zb b;subst b;rw[if_neg (λh=>this h.symm)]
   .rfl
def scan(L:Nat->Bool)(fr0:Fr)(t:Nat):List (Nat×Option Nat×AV)->JF
 |[]=>fr0.get t
 |(i,d,v)::r=>match L i,d with
  |true,some d=>if d=t then some v else scan L fr0 t r
  |_,_=>scan L fr0 t r
theorem zIn{L:Nat->Bool}{fr0:Fr}{t:Nat}{r:List (Nat×Option Nat×AV)}:∀{nw:List (Nat×Option Nat×AV)},(∀x∈nw,L x.1=true->x.2.1≠some t)->scan L fr0 t (nw++r)=scan L fr0 t r
 |[],_=>rfl
 |(i,d,v)::nw,h=>by
  have b:=zIn (r:=r) (fr0:=fr0) λx f=>h x (.tail _ f)
  have h1:L i=true->d≠some t:=h _ (.head _);simp only[List.cons_append,scan];split
  .rename_i g c;rw[if_neg λe=>h1 c (by rw[e]),b]
  .exact b
theorem zG2{L L':Nat->Bool}{fr0:Fr}{t:Nat}:∀{r:List (Nat×Option Nat×AV)},(∀x∈r,x.2.1=some t->L x.1=L' x.1)->scan L fr0 t r=scan L' fr0 t r
 |[],_=>rfl
 |(i,d,v)::r,h=>by
  have b:=zG2 (fr0:=fr0) λx c=>h x (.tail _ c)
  have h1:d=some t->L i=L' i:=h _ (.head _);simp only[scan];cases d with
  |none=>simpa using b
  |some d=>
   by_cases e:d=t
   .subst e;rw[h1 rfl,b]
   .cases L i<;>cases L' i<;>simp[e,b]
def cur(L:Nat->Bool):JN->List (Heap×Nat)->Option (Heap×Nat)
 |[],x::_=>some x
 |(c,_)::ch,x::ms=>match L c with
  |true=>some x
  |false=>cur L ch ms
 |_,[]=>none
theorem zKM{L L':Nat->Bool}:∀{ch:JN}{ms:List (Heap×Nat)},(∀c∈ch,L c.1=L' c.1)->cur L ch ms=cur L' ch ms
 |[],[],_=>rfl
 |[],_::_,_=>rfl
 |(c,p)::ch,[],_=>rfl
 |(c,p)::ch,x::ms,h=>by
  have h1:L c=L' c:=h _ (.head _);simp only[cur,h1,zKM λx b=>h x (.tail _ b)]
theorem zJA{L:Nat->Bool}{ch:JN}{ms:List (Heap×Nat)}:∀{e:JN}{nm:List (Heap×Nat)},nm.length=e.length->(∀c∈e,L c.1=false)->cur L (e++ch) (nm++ms)=cur L ch ms
 |[],[],_,_=>rfl
 |(c,p)::e,x::nm,b,h=>by
  have h1:L c=false:=h _ (.head _);simp only[List.cons_append,cur,h1];exact zJA (by simpa using b) λx f=>h x (.tail _ f)
 |[],_::_,b,_=>by simp at b
 |_::_,[],b,_=>by simp at b
theorem zQR{L:Nat->Bool}{ch:JN}{x:Heap×Nat}{ms:List (Heap×Nat)}(h:∀c∈ch,L c.1=true):cur L ch (x::ms)=some x:=by
 cases ch with
 |nil=>rfl
 |cons c ch=>
  have h1:L c.1=true:=h _ (.head _);obtain⟨c,p⟩:=c;simp only[cur,h1]
inductive DStep(G:Cx)(call:Call)(i:Nat)(o:XOper)(d:XD)(s:DS):DS->Prop where
 |skip:zBm (only d.looks s.fr) o.guard=some false->DStep G call i o d s { s with fr:=qv s.fr o.dst (.qg []),tr:=(i,o.dst,.qg [])::s.tr }
 |pure (v:AV):zBm (only d.looks s.fr) o.guard=some true->xo G zd (only d.looks s.fr) [] s.nx o.op=some (v,[],s.nx) →
   DStep G call i o d s { s with fr:=qv s.fr o.dst v,tr:=(i,o.dst,v)::s.tr }
 |read (v:AV):zBm (only d.looks s.fr) o.guard=some true->zP o.op=1 →
   DStep G call i o d s { s with fr:=qv s.fr o.dst v,rd:=⟨i,o.op,only d.looks s.fr,d.qd,v⟩::s.rd,tr:=(i,o.dst,v)::s.tr }
 |alloc (v:AV) (ob:HO):zBm (only d.looks s.fr) o.guard=some true->xo G zd (only d.looks s.fr) [] s.nx o.op=some (v,[(s.nx,ob)],s.nx+1) →
   DStep G call i o d s { s with fr:=qv s.fr o.dst v,nx:=s.nx+1,al:=(i,s.nx,ob)::s.al,tr:=(i,o.dst,v)::s.tr }
 |chain (v:AV) (m:Heap) (inc:Nat) (ms:List (Heap×Nat)) (m':Heap) (n:Nat):zBm (only d.looks s.fr) o.guard=some true->s.ms=(m,inc)::ms →
   (∀c∈s.ch,d.qd.testBit c.1=true)->xo G call (only d.looks s.fr) (within (but d.qd inc) s.al++m) s.nx o.op=some (v,m',n) →
   DStep G call i o d s { s with fr:=qv s.fr o.dst v,nx:=n,ms:=(m',inc ||| zA0 d.qd s.al)::s.ms,ch:=(i,d.qd)::s.ch,tr:=(i,o.dst,v)::s.tr }
theorem zRQ{G:Cx}{call:Call}{i:Nat}{o:XOper}{d:XD}{s k:DS}(h:zCr G call i o d s=some k):DStep G call i o d s k:=by
 unfold zCr at h;simp only at h;split at h
 .rename_i e;cases h;exact .skip e
 .rename_i e;split at h
  .split at h
   .rename_i v n b;split at h
    .rename_i f;cases h;rw[zb f]at b;exact .pure v e b
    .cases h
   .cases h
  .rename_i hk;split at h
   .split at h
    .cases h;exact .read _ e hk
    .cases h
   .cases h
  .split at h
   .rename_i v t p n b;split at h
    .rename_i f;split at h
     .rename_i g;cases h;rw[zb f,zb g]at b;rw[zb f,zb g];exact .alloc v p e b
     .cases h
    .cases h
   .rename_i v n b;split at h
    .rename_i f;cases h;rw[zb f]at b;exact .pure v e b
    .cases h
   .cases h
  .split at h
   .rename_i m inc l j;split at h
    .rename_i hc;split at h
     .rename_i v q n b;cases h;exact .chain v m inc l q n e j (λc r=>QD.1 hc c r) b
     .cases h
    .cases h
   .cases h
 .cases h
theorem zJb{G:Cx}{call:Call}:∀{ops:List XOper}{ds:List XD}{i:Nat}{s b:DS},zA1 G call i ops ds s=some b →
  ∃st:Nat->DS,st 0=s/\st ops.length=b/\∀j o,ops[j]?=some o->∃d,ds[j]?=some d/\DStep G call (i+j) o d (st j) (st (j+1))
 |[],ds,i,s,b,h=>by
  simp only[zA1]at h;cases h;exact⟨λ_=>s,rfl,rfl,λj o c=>by simp at c⟩
 |o::r,[],i,s,b,h=>by simp[zA1]at h
 |o::r,d::ds,i,s,b,h=>by
  simp only[zA1]at h;split at h
  .rename_i p h1;obtain⟨st,e,n,g⟩:=zJb h;refine⟨λ|0=>s|j+1=>st j,rfl,by simpa using n,λj m c=>?_⟩
   cases j with
   |zero=>
    simp at c;subst c;exact⟨d,rfl,by show DStep G call (i+0) o d s (st 0);rw[e];exact zRQ h1⟩
   |succ j=>
    obtain⟨k,f,l⟩:=g j m (by simpa using c)
    exact⟨k,by simpa using f,by rw[show i+(j+1)=i+1+j by omega];exact l⟩
  .cases h
structure Later(s s':DS)(lo:Nat):Prop where
 ch:∃nc nm,s'.ch=nc++s.ch/\s'.ms=nm++s.ms/\nm.length=nc.length/\∀c∈nc,lo<=c.1/\∀c0∈s.ch,c.2.testBit c0.1=true
 al:∃na,s'.al=na++s.al/\∀x∈na,lo<=x.1
 tr:∃nt,s'.tr=nt++s.tr/\∀x∈nt,lo<=x.1
 rd:∀r∈s.rd,r∈s'.rd
 nx:s.nx<=s'.nx
theorem Later.refl(s:DS)(lo:Nat):Later s s lo:=
 ⟨⟨[],[],rfl,rfl,rfl,λc h=>by simp at h⟩,⟨[],rfl,λc h=>by simp at h⟩,⟨[],rfl,λc h=>by simp at h⟩,λ_ h=>h,QA _⟩
theorem Later.trans{a b c:DS}{lo f:Nat}(h:Later a b lo)(k:Later b c f)(j:lo<=f):Later a c lo:=by
 obtain⟨O,s,h1,t,K,A⟩:=h.ch;obtain⟨g,n,q,N,z,p⟩:=k.ch;obtain⟨F,C,M⟩:=h.al;obtain⟨m,D,J⟩:=k.al;obtain⟨nt,B,h8⟩:=h.tr;obtain⟨l,y,v⟩:=k.tr;refine⟨⟨g++O,n++s,by rw[q,h1,Ql],by rw[N,t,Ql],by simp[K,z],λc hc=>?_⟩,
  ⟨m++F,by rw[D,C,Ql],λx e=>?_⟩,⟨l++nt,by rw[y,B,Ql],λx e=>?_⟩,λr I=>k.rd r (h.rd r I),QI h.nx k.nx⟩
 .rcases QH.1 hc with hc|hc
  .exact⟨QI j (p c hc).1,λc0 u=>(p c hc).2 c0 (h1▸Qk _ u)⟩
  .exact A c hc
 .rcases QH.1 e with e|e
  .exact QI j (J x e)
  .exact M x e
 .rcases QH.1 e with e|e
  .exact QI j (v x e)
  .exact h8 x e
structure Low(s:DS)(i:Nat):Prop where
 ch:∀c∈s.ch,c.1<i
 al:∀c∈s.al,c.1<i
 tr:∀c∈s.tr,c.1<i
theorem DStep.ext{G:Cx}{call:Call}{i:Nat}{o:XOper}{d:XD}{s g:DS}(hc:zDR call)(h:DStep G call i o d s g):Later s g i:=by
 have one:∀(v:AV),∃nt,(i,o.dst,v)::s.tr=nt++s.tr/\∀x∈nt,i<=x.1:=λv=>⟨[(i,o.dst,v)],rfl,λx b=>by simp at b;subst b;exact QA _⟩
 have e:=Later.refl s i;cases h with
 |skip _=>exact{ e with tr:=one _ }
 |pure v _ _=>exact{ e with tr:=one _ }
 |read v _ _=>exact{ e with tr:=one _,rd:=λr l=>.tail _ l }
 |alloc v q _ _=>exact{ e with tr:=one _,al:=⟨[_],rfl,λx b=>by simp at b;subst b;exact QA _⟩,nx:=QT _ }
 |chain v m inc p t n _ k f b=>
  exact{ e with tr:=one _,ch:=⟨[_],[_],rfl,rfl,rfl,λc j=>by simp at j;subst j;exact⟨QA _,f⟩⟩,nx:=zTg hc (zFI.symm.trans b) }
theorem DStep.low{G:Cx}{call:Call}{i:Nat}{o:XOper}{d:XD}{s b:DS}(h:DStep G call i o d s b)(l:Low s i):Low b (i+1):=by
 have up:Low s (i+1):=⟨λc h=>Nat.lt_succ_of_lt (l.ch c h),λc h=>Nat.lt_succ_of_lt (l.al c h),λc h=>Nat.lt_succ_of_lt (l.tr c h)⟩
 have one:∀(v:AV),∀c∈(i,o.dst,v)::s.tr,c.1<i+1:=λv c hc=>by
  rcases QG.1 hc with hc|hc
  .subst hc;exact QR _
  .exact up.tr c hc
 cases h with
 |skip _=>exact{ up with tr:=one _ }
 |pure v _ _=>exact{ up with tr:=one _ }
 |read v _ _=>exact{ up with tr:=one _ }
 |alloc v j _ _=>
  refine{ up with tr:=one _,al:=λc hc=>?_ }
  rcases QG.1 hc with hc|hc
  .subst hc;exact QR _
  .exact up.al c hc
 |chain v m inc g k n _ e f p=>
  refine{ up with tr:=one _,ch:=λc hc=>?_ }
  rcases QG.1 hc with hc|hc
  .subst hc;exact QR _
  .exact up.ch c hc
theorem DStep.word{G:Cx}{call:Call}{i:Nat}{o:XOper}{d:XD}{s b:DS}(h:DStep G call i o d s b):∃v,b.tr=(i,o.dst,v)::s.tr/\b.fr=qv s.fr o.dst v:=by
 cases h<;>exact⟨_,rfl,rfl⟩
end
theorem zA9{P:Program}{ops:Array Oper}{o:Oper}:(zm P ops o).dst=o.dst:=by
 unfold zm;split
 .rfl
 .split<;>rfl
theorem zJ6{P:Program}{ops:Array Oper}{o:Oper}(h:o.guard=none):zm P ops o=⟨o.dst,(zAN P o.op).getD .bad,none⟩:=by
 simp[zm,h]
theorem zJ7{P:Program}{ops:Array Oper}{o:Oper}{j s:Nat}{b:Bool}(h:o.guard=some (j,b))(c:(ops[j]?).bind (·.dst)=some s):zm P ops o=⟨o.dst,(zAN P o.op).getD .bad,some (s,b)⟩:=by
 simp[zm,h,c]
theorem zJ8{P:Program}{ops:Array Oper}{o:Oper}{j:Nat}{b:Bool}(h:o.guard=some (j,b))(c:(ops[j]?).bind (·.dst)=none):zm P ops o=⟨o.dst,.bad,none⟩:=by
 simp[zm,h,c]
theorem zD1{P:Program}{ops:Array Oper}{o:Oper}(h:(zm P ops o).op≠.bad):zAN P o.op=some (zm P ops o).op:=by
 have key:((zAN P o.op).getD .bad)≠.bad->zAN P o.op=some ((zAN P o.op).getD .bad):=λh=>by
  cases hc:zAN P o.op with
  |none=>simp[hc]at h
  |some y=>rfl
 cases hg:o.guard with
 |none=>rw[zJ6 hg]at *;exact key h
 |some c=>
  obtain⟨j,b⟩:=c;cases hs:(ops[j]?).bind (·.dst)with
  |none=>rw[zJ8 hg hs]at h;exact absurd rfl h
  |some s=>rw[zJ7 hg hs]at *;exact key h
theorem zBB{P:Program}{ops:Array Oper}{o:Oper}{E:Env}{w:World}{fr:Fr}{a:Act}{nt:Nat}{b:Bool}(m:FrR E w fr a nt)(h:zBm fr (zm P ops o).guard=some b)
  (k:b=false\/(zm P ops o).op≠.bad):Region.wanted o (yielded ops a.tmps)=b:=by
 cases hg:o.guard with
 |none=>
  rw[zJ6 hg]at h;simp only[zBm,QK]at h;subst h;simp[Region.wanted,hg]
 |some r=>
  obtain⟨j,f⟩:=r;cases hs:(ops[j]?).bind (·.dst)with
  |some s=>
   rw[zJ7 hg hs]at h;simp only[zBm]at h;split at h
   .rename_i c hc;have h1:=(m.get s _ hc).of_bool;have n:a.tmps[s]?=some (.bool c):=by
     rw[Array.getD_eq_getD_getElem?]at h1;cases e:a.tmps[s]? with
     |none=>rw[e]at h1;simp[undef]at h1
     |some u=>rw[e]at h1;simpa using h1
    have g:yielded ops a.tmps j=some c:=by simp[yielded,hs,n]
    simp only[Region.wanted,hg,g];simp only[QK]at h;rw[←h];cases c<;>cases f<;>rfl
   .rename_i hc;cases h;have h1:a.tmps.getD s undef=.tuple #[]:=by
     obtain⟨l,q,p⟩:=(m.get s _ hc).w5;have:l=#[]:=by
      have:=p.of_nil;cases l;simp_all
     rw[q,this]
    have g:yielded ops a.tmps j=none:=by
     simp only[yielded,hs,Option.bind_some];rw[Array.getD_eq_getD_getElem?]at h1;cases e:a.tmps[s]? with
     |none=>rfl
     |some u=>rw[e]at h1;simp at h1;subst h1;rfl
    simp[Region.wanted,hg,g]
   .cases h
  |none=>
   rw[zJ8 hg hs]at h k;simp only[zBm,QK]at h;subst h;simp at k
structure DRun(P:Program)(G:Cx)(call:Call)(ops:Array Oper)(ds:List XD)(st:Nat->DS)(H0:Heap)(fr0:Fr)(nx0 nt:Nat):Prop where
 step:∀(j:Nat)(o:Oper),ops[j]?=some o->∃d,ds[j]?=some d/\DStep G call j (zm P ops o) d (st j) (st (j+1))
 init:st 0=⟨fr0,nx0,[(H0,0)],[],[],[],[]⟩
 apart:∀(j k:Nat)(oj ok:Oper)(dj dk:XD),j<k->ops[j]?=some oj->ops[k]?=some ok->ds[j]?=some dj->ds[k]?=some dk->dk.qd.testBit j=true\/zFJ oj.dst dj ok.dst dk=true
 low:∀(j:Nat)(d:XD)(k:Nat),ds[j]?=some d->d.qd.testBit k=true->k<j
 dst:∀(j:Nat)(o:Oper)(d:Nat),ops[j]?=some o->o.dst=some d->d<nt
 reads:∀r∈(st ops.size).rd,zBJ G (st ops.size).al (st ops.size).nx r (st ops.size).ch (st ops.size).ms=true
namespace DRun
variable{P:Program}{G:Cx}{call:Call}{ops:Array Oper}{ds:List XD}{st:Nat->DS}{H0:Heap}{fr0:Fr}{nx0 nt:Nat}
theorem get(_:DRun P G call ops ds st H0 fr0 nx0 nt){j:Nat}(h:j<ops.size):∃o,ops[j]?=some o:=⟨ops[j],Qe h⟩
theorem lows(R:DRun P G call ops ds st H0 fr0 nx0 nt):∀j,j<=ops.size->Low (st j) j
 |0,_=>by rw[R.init];exact⟨λc h=>by simp at h,λc h=>by simp at h,λc h=>by simp at h⟩
 |j+1,b=>by
  obtain⟨o,e⟩:=R.get (j:=j) b;obtain⟨d,_,f⟩:=R.step j o e;exact f.low (R.lows j (Qh b))
theorem later(hc:zDR call)(R:DRun P G call ops ds st H0 fr0 nx0 nt)(i:Nat):∀k,i+k<=ops.size->Later (st i) (st (i+k)) i
 |0,_=>.refl _ _
 |k+1,b=>by
  obtain⟨o,c⟩:=R.get (j:=i+k) b;obtain⟨d,_,e⟩:=R.step _ o c;exact(R.later hc i k (Qh b)).trans (e.ext hc) (Qt _ _)
theorem last(hc:zDR call)(R:DRun P G call ops ds st H0 fr0 nx0 nt){i:Nat}(b:i<=ops.size):Later (st i) (st ops.size) i:=by
 have:=R.later hc i (ops.size-i) (by omega)
 rwa [show i+(ops.size-i)=ops.size by omega]at this
theorem mono(hc:zDR call)(R:DRun P G call ops ds st H0 fr0 nx0 nt){i j:Nat}(b:i<=j)(c:j<=ops.size):(st i).nx<=(st j).nx:=by
 have:=(R.later hc i (j-i) (by omega)).nx
 rwa [show i+(j-i)=j by omega]at this
theorem words(R:DRun P G call ops ds st H0 fr0 nx0 nt):∀j,j<=ops.size->∀x∈(st j).tr,∃o,ops[x.1]?=some o/\x.2.1=o.dst
 |0,_=>by rw[R.init];intro x h;simp at h
 |j+1,f=>by
  obtain⟨o,c⟩:=R.get (j:=j) f;obtain⟨d,_,g⟩:=R.step j o c;obtain⟨v,e,_⟩:=g.word;intro x b;rw[e]at b;rcases QG.1 b with b|b
  .subst b;exact⟨o,c,zA9⟩
  .exact R.words j (Qh f) x b
theorem frames(R:DRun P G call ops ds st H0 fr0 nx0 nt)(t:Nat):∀j,j<=ops.size->scan (λ_=>true) fr0 t (st j).tr=(st j).fr.get t
 |0,_=>by rw[R.init];rfl
 |j+1,b=>by
  obtain⟨o,f⟩:=R.get (j:=j) b;obtain⟨d,_,g⟩:=R.step j o f;obtain⟨v,e,h⟩:=g.word;rw[e,h];have c:=R.frames t j (Qh b);cases hd:(zm P ops o).dst with
  |none=>simpa[scan,qv]using c
  |some s=>simp only[scan,qv,Fr.qu,c]
theorem chains(R:DRun P G call ops ds st H0 fr0 nx0 nt):∀j,j<=ops.size->∀c∈(st j).ch,∃d,ds[c.1]?=some d/\c.2=d.qd
 |0,_=>by rw[R.init];intro x h;simp at h
 |j+1,g=>by
  obtain⟨o,p⟩:=R.get (j:=j) g;obtain⟨d,k,b⟩:=R.step j o p;have e:=R.chains j (Qh g);generalize l:st (j+1)=r at b;generalize f:st j=s at b e;cases b with
  |chain v m inc q t n _ _ _ _=>
   intro c hc;rcases QG.1 hc with hc|hc
   .subst hc;exact⟨d,k,rfl⟩
   .exact e c hc
  |_=>exact e
structure Inv(dl:List Deferred)(st:Nat->DS)(n:Nat)(E0:Env)(H0:Heap)(w0:World)(fr0:Fr)(nt:Nat)(L:Nat->Bool)(E:Env)(w:World)(a:Act):Prop where
 size:a.tmps.size=nt
 defers:a.defers=dl
 fr:∀t v,scan L fr0 t (st n).tr=some v->VR E w v (a.tmps.getD t undef)
 heap:∃m inc,cur L (st n).ch (st n).ms=some (m,inc)/\(∀j,inc.testBit j=true->L j=true)/\HR E (within (λj=>L j&&!inc.testBit j) (st n).al++m) w ∧
  vU E0 H0 w0 E (within (λj=>L j&&!inc.testBit j) (st n).al++m) w λh=>∃j,j<n/\L j=true/\(st j).nx<=h/\h<(st (j+1)).nx
theorem zMs{n:Nat}:∀{l:List Nat},zCB n l=true↔n∈l
 |[]=>by simp[zCB]
 |a::r=>by
  simp only[zCB];split
  .rename_i h;simp[zb h]
  .rename_i h;have:=zAq h;rw[zMs];simp[this]
theorem zIO{x y:Option Nat}{f c:XD}(h:zFJ x f y c=true):(∀d,x=some d->d ∉ c.looks)/\(∀d,y=some d->d ∉ f.looks)/\(∀d,x=some d->y≠some d):=by
 simp only[zFJ,qr]at h;obtain⟨⟨h1,g⟩,j⟩:=h;refine⟨λd e b=>?_,λd e b=>?_,λd e k=>?_⟩
 .subst e;simp[zMs.2 b]at h1
 .subst e;simp[zMs.2 b]at g
 .subst e;subst k;simp at j
section
variable{dl:List Deferred}{E0 E:Env}{w0 w:World}{a:Act}{L L':Nat->Bool}{i:Nat}{o:Oper}{d:XD}
theorem looked(hc:zDR call)(R:DRun P G call ops ds st H0 fr0 nx0 nt)(ho:ops[i]?=some o)(u:ds[i]?=some d)(y:L i=false)
  (s:∀(k:Nat)(dk:XD),L k=true->ds[k]?=some dk->∀j,dk.qd.testBit j=true->L j=true) (g:∀j,d.qd.testBit j=true->L j=true)
  (f:Inv dl st ops.size E0 H0 w0 fr0 nt L E w a):FrR E w (only d.looks (st i).fr) a nt:=by
 have n:i<ops.size:=(Array.getElem?_eq_some_iff.1 ho).1;refine⟨f.size,λt v A=>?_⟩
 obtain⟨m1,m2⟩:=zMr A;apply f.fr;rw[←m2,←R.frames t i (Qh n)];obtain⟨F,z,B⟩:=(R.last hc (Qh n)).tr;rw[z,zIn]
 .apply zG2;intro x l e;obtain⟨D,h1,q⟩:=R.words i (Qh n) x l;have b:=(R.lows i (Qh n)).tr x l;obtain⟨C,m,_⟩:=R.step _ _ h1;rcases R.apart _ _ _ _ _ _ b h1 ho m u with c|c
  .exact g _ c
  .exact absurd m1 ((zIO c).1 t (by rw[←q];exact e))
 .intro x l r e;obtain⟨D,h1,q⟩:=R.words ops.size (QA _) x (z▸Qn _ l)
  have p:=B x l;have b:i<x.1:=by
   rcases Nat.eq_or_lt_of_le p with h|h
   .rw[←h,y]at r;cases r
   .exact h
  obtain⟨C,m,_⟩:=R.step _ _ h1;rcases R.apart _ _ _ _ _ _ b ho h1 u m with c|c
  .have:=s _ _ r m _ c;rw[y]at this;cases this
  .exact(zIO c).2.1 t (by rw[←q];exact e) m1
theorem behind(hc:zDR call)(R:DRun P G call ops ds st H0 fr0 nx0 nt)(ho:ops[i]?=some o)(C:ds[i]?=some d)(D:L i=false)(c:∀j,L' j=(L j||j==i))
  (y:∀(k:Nat)(dk:XD),L k=true->ds[k]?=some dk->∀j,dk.qd.testBit j=true->L j=true)
  (m:Inv dl st ops.size E0 H0 w0 fr0 nt L E w a) {E':Env} {w':World} {v:AV} {cv:Value} (I:(st (i+1)).tr=(i,(zm P ops o).dst,v)::(st i).tr)
  (g:∀{v cv},VR E w v cv->VR E' w' v cv) (M:VR E' w' v cv):∀t u,scan L' fr0 t (st ops.size).tr=some u->VR E' w' u ((a.put o.dst cv).tmps.getD t undef):=by
 have J:i<ops.size:=(Array.getElem?_eq_some_iff.1 ho).1;intro t u h;by_cases b:o.dst=some t
 .obtain⟨O,A,F⟩:=(R.last hc (i:=i+1) J).tr;rw[A,zIn,I]at h
  .have h1:L' i=true:=by simp[c]
   rw[zA9,b]at h;simp only[scan,h1,if_true,QK]at h;subst h;have r:t<a.tmps.size:=by rw[m.size];exact R.dst i o t ho b
   simpa[Act.put,b,Array.getElem?_setIfInBounds,r]using M
  .intro x p n f;have B:=F x p;have n:L x.1=true:=by
    rw[c]at n;have:(x.1==i)=false:=by simp;omega
    simpa[this]using n
   obtain⟨N,h1,l⟩:=R.words ops.size (QA _) x (A▸Qn _ p)
   obtain⟨Q,z,_⟩:=R.step _ _ h1;rcases R.apart i x.1 _ _ _ _ (by omega) ho h1 C z with s|s
   .have:=y _ _ n z _ s;rw[D]at this;cases this
   .exact(zIO s).2.2 t b (by rw[←l];exact f)
 .rw[zG2 (L':=L)]at h
  .have h1:=g (m.fr t u h);have l:(a.put o.dst cv).tmps.getD t undef=a.tmps.getD t undef:=by
    unfold Act.put;split
    .rename_i K q;have:K≠t:=λe=>b (by rw[q,e])
     simp[Array.getElem?_setIfInBounds_ne this]
    .rfl
   rw[l];exact h1
  .intro x p f;obtain⟨N,h1,l⟩:=R.words ops.size (QA _) x p;rw[c];have:x.1≠i:=λe=>by
    rw[e,ho]at h1;cases h1;exact b (by rw[←l];exact f)
   simp[this]
theorem zWy(hc:zDR call)(R:DRun P G call ops ds st H0 fr0 nx0 nt)(c:i<ops.size)(h:(st (i+1)).al=(st i).al):∀x∈(st ops.size).al,x.1≠i:=by
 obtain⟨g,e,f⟩:=(R.last hc (i:=i+1) c).al;intro x b;rw[e,h]at b;rcases QH.1 b with b|b
 .have:=f x b;omega
 .have:=(R.lows i (Qh c)).al x b;omega
theorem zWz(hc:zDR call)(R:DRun P G call ops ds st H0 fr0 nx0 nt)(c:i<ops.size)(h:(st (i+1)).ch=(st i).ch):∀x∈(st ops.size).ch,x.1≠i:=by
 obtain⟨j,g,e,_,_,f⟩:=(R.last hc (i:=i+1) c).ch;intro x b;rw[e,h]at b;rcases QH.1 b with b|b
 .have:=(f x b).1;omega
 .have:=(R.lows i (Qh c)).ch x b;omega
theorem zVM(hc:zDR call)(R:DRun P G call ops ds st H0 fr0 nx0 nt)(c:i<ops.size)(g:L i=false)(b:zDL E0 nx0 (st ops.size).nx){H:Heap}
  (k:vU E0 H0 w0 E H w λh=>∃j,j<ops.size/\L j=true/\(st j).nx<=h/\h<(st (j+1)).nx):zDL E (st i).nx (st (i+1)).nx:=by
 intro h h1 p m;rcases(k.qx h).1 m with l|⟨j,f,e,q,r⟩
 .have n:(st 0).nx=nx0:=by rw[R.init]
  have:=R.mono hc (QV i) (Qh c);have:=R.mono hc (i:=i+1) c (QA _);exact b h (by omega) (by omega) l
 .rcases Nat.lt_trichotomy i j with h|h|h
  .have:=R.mono hc (i:=i+1) (j:=j) h (Qh f);omega
  .subst h;rw[g]at e;cases e
  .have:=R.mono hc (i:=j+1) (j:=i) h (Qh c);omega
theorem zXC(e:i<ops.size)(c:∀j,L' j=(L j||j==i))(h:Nat):
  (∃j,j<ops.size/\L' j=true/\(st j).nx<=h/\h<(st (j+1)).nx)↔(∃j,j<ops.size/\L j=true/\(st j).nx<=h/\h<(st (j+1)).nx)\/((st i).nx<=h/\h<(st (i+1)).nx):=by
 constructor
 .rintro ⟨j,h1,b,h3⟩
  rw[c,Bool.or_eq_true,beq_iff_eq]at b;rcases b with b|b
  .exact .inl ⟨j,h1,b,h3⟩
  .subst b;exact .inr h3
 .rintro (⟨j,h1,b,h3⟩|h3)
  .exact⟨j,h1,by rw[c,b];rfl,h3⟩
  .exact⟨i,e,by simp[c],h3⟩
theorem zNq{r:DRead}{al:List (Nat×Nat×HO)}{nx:Nat}(l:L r.i=false)(e:∀j,r.qd.testBit j=true->L j=true):
  ∀{ch:List (Nat×Nat)}{ms:List (Heap×Nat)}{m:Heap}{inc:Nat},(∀c∈ch,L c.1=true->∀j,c.2.testBit j=true->L j=true)->zBJ G al nx r ch ms=true->cur L ch ms=some (m,inc)->zDm G al nx r m inc=true
 |[],x::ms,m,inc,_,h,b=>by
  simp only[cur,QK]at b;subst b
  simpa[zBJ]using h
 |[],[],m,inc,_,h,b=>by simp[cur]at b
 |c::ch,[],m,inc,_,h,b=>by simp[cur]at b
 |(c,p)::ch,(m0,q)::ms,m,inc,f,h,b=>by
  have h1:L c=true->∀j,p.testBit j=true->L j=true:=f _ (.head _);simp only[cur]at b;simp only[zBJ]at h;split at b
  .rename_i k;cases b;split at h
   .exact h
   .split at h
    .rename_i g;have:=h1 k _ g;rw[l]at this;cases this
    .split at h
     .rename_i s;exact s
     .cases h
  .rename_i k;split at h
   .rename_i g;have:=e _ g;rw[k]at this;cases this
   .have n:=λh=>zNq (al:=al) (nx:=nx) (ch:=ch) (ms:=ms) (m:=m) (inc:=inc) l e (λx t=>f x (.tail _ t)) h b
    split at h
    .exact n h
    .split at h
     .exact n h
     .cases h
end
end DRun
end Go.Sy
namespace Go.Sy
namespace DRun
variable{P:Program}{G:Cx}{call:Call}{ops:Array Oper}{ds:List XD}{st:Nat->DS}{H0:Heap}{fr0:Fr}{nx0 nt:Nat}
variable{dl:List Deferred}{E0 E:Env}{w0 w:World}{a:Act}{L L':Nat->Bool}{i:Nat}{o:Oper}{d:XD}
theorem put_defers{a:Act}{d:Option Nat}{v:Value}:(a.put d v).defers=a.defers:=by
 unfold Act.put;split<;>rfl
theorem put_size{a:Act}{d:Option Nat}{v:Value}:(a.put d v).tmps.size=a.tmps.size:=by
 unfold Act.put;split<;>simp
theorem wpOp_of{Q:Exit->Act->World->Prop}{K:Act->World->Prop}(ho:ops[i]?=some o)(b:Region.wanted o (yielded ops a.tmps)=true)(h:o.wp P a w K Q):wpOp P ops Q i K a w:=by
 unfold wpOp;simp only[ho,b,if_true];exact .inl h
theorem wpOp_not{Q:Exit->Act->World->Prop}{K:Act->World->Prop}(ho:ops[i]?=some o)(b:Region.wanted o (yielded ops a.tmps)=false)(h:K (a.put o.dst undef) w):wpOp P ops Q i K a w:=by
 unfold wpOp;simp only[ho,b];exact h
theorem zWA{α:Type}(a b c:List α):(a++b++c).Perm (a++c++b):=by
 rw[Ql,Ql];exact List.perm_append_comm.append_left a
theorem exec(N:zEp P G call)(hm:zAr P G)(R:DRun P G call ops ds st H0 fr0 nx0 nt)(ar:HR E0 H0 w0)(af:GR G E0 w0)(az:zDL E0 nx0 (st ops.size).nx)
  (ho:ops[i]?=some o) (U:L i=false) (u:∀j,L' j=(L j||j==i))
  (X:∀(k:Nat)(dk:XD),L k=true->ds[k]?=some dk->∀j,dk.qd.testBit j=true->L j=true) (t:∀d,ds[i]?=some d->∀j,d.qd.testBit j=true->L j=true)
  (O:Inv dl st ops.size E0 H0 w0 fr0 nt L E w a) {K:Act->World->Prop} {Q:Exit->Act->World->Prop} (hK:∀E' a' w',Inv dl st ops.size E0 H0 w0 fr0 nt L' E' w' a'->K a' w'):wpOp P ops Q i K a w:=by
 have hc:zDR call:=N.le;have S:i<ops.size:=(Array.getElem?_eq_some_iff.1 ho).1;obtain⟨d,hd,hs⟩:=R.step i o ho;have t:=t d hd;have A:=looked hc R ho hd U X t O;obtain⟨m,inc,D,F,hr,ht⟩:=O.heap;have hg:GR G E w:=λg v hv=>⟨ht.vr ar (af g v hv).1,(af g v hv).2.mono ht.qn⟩
 have T:=zVM hc R S U az ht;have z:∀{j:Nat},L' j=true↔L j=true\/j=i:=λ{j}=>by rw[u];simp
 have close:∀{E':Env}{w':World}{v:AV}{cv:Value}{W:Heap}{y:Nat},(st (i+1)).tr=(i,(zm P ops o).dst,v)::(st i).tr->VR E' w' v cv->cur L' (st ops.size).ch (st ops.size).ms=some (W,y) →
   (∀j,y.testBit j=true->L' j=true)->HR E' (within (λj=>L' j&&!y.testBit j) (st ops.size).al++W) w' →
   Tr E (within (λj=>L j&&!inc.testBit j) (st ops.size).al++m) w E' (within (λj=>L' j&&!y.testBit j) (st ops.size).al++W) w' (st i).nx (st (i+1)).nx->K (a.put o.dst cv) w':=by
  intro E' w' v cv W y hw hv h1 B I h4;refine hK E' _ w' ⟨by rw[put_size];exact O.size,by rw[put_defers];exact O.defers,behind hc R ho hd U u X O hw (h4.vr hr) hv,W,y,h1,B,I,ht.step h4 λh=>zXC S u h⟩
 have same:∀{E':Env}{w':World}{v:AV}{cv:Value},(st (i+1)).tr=(i,(zm P ops o).dst,v)::(st i).tr->VR E' w' v cv->(st (i+1)).al=(st i).al->(st (i+1)).ch=(st i).ch->(st (i+1)).nx=(st i).nx →
   HR E' (within (λj=>L j&&!inc.testBit j) (st ops.size).al++m) w' →
   Tr E (within (λj=>L j&&!inc.testBit j) (st ops.size).al++m) w E' (within (λj=>L j&&!inc.testBit j) (st ops.size).al++m) w' (st i).nx (st i).nx->K (a.put o.dst cv) w':=by
  intro E' w' v cv hw hv h1 B I h4 h5;have e1:cur L' (st ops.size).ch (st ops.size).ms=some (m,inc):=by
   rw[←D];refine zKM λc s=>?_
   have:=zWz hc R S B c s;rw[u];simp[this]
  have e2:within (λj=>L' j&&!inc.testBit j) (st ops.size).al=within (λj=>L j&&!inc.testBit j) (st ops.size).al:=by
   refine zCs λx p=>?_
   have:=zWy hc R S h1 x p;have e:L' x.1=L x.1:=by rw[u];simp[this]
   simp only[e]
  refine close hw hv e1 (λj J=>z.2 (.inl (F j J))) (by rw[e2];exact h4) ?_
  rw[e2,I];exact h5
 obtain⟨nw,ab,ad⟩:=(R.last hc (i:=i+1) S).al;obtain⟨nc,nm,ac,ae,aj,ag⟩:=(R.last hc (i:=i+1) S).ch;have low:=R.lows i (Qh S);generalize l:st (i+1)=s1 at hs;have a1:=l;cases hs with
 |skip q=>
  exact wpOp_not ho (zBB A q (.inl rfl)) (same (v:=.qg []) (cv:=undef) (by rw[l]) (VR.qI (vs:=#[]) VRs.nil) (by rw[l]) (by rw[l]) (by rw[l]) hr (.refl _))
 |pure v q p=>
  have r:(zm P ops o).op≠.bad:=λe=>by rw[e]at p;simp[xo,zNb]at p
  have aa:HR E ([]++(within (λj=>L j&&!inc.testBit j) (st ops.size).al++m)) w:=hr
  refine wpOp_of ho (zBB A q (.inr r)) (zEq (hr.sub (List.nil_sublist _)) A hg hm zC1 (zD1 r) (λh h1 B=>by omega) (zFI.symm.trans p) K Q λcv E' w' h1 B I=>?_)
  obtain⟨f1,f2⟩:=Tr.frame aa h1 B;exact same (v:=v) (by rw[l]) I (by rw[l]) (by rw[l]) (by rw[l]) f1 f2
 |read v q hk=>
  have aw:=R.reads _ ((R.last hc (i:=i+1) S).rd ⟨i,(zm P ops o).op,only d.looks (st i).fr,d.qd,v⟩ (by rw[l];exact .head _))
  have V:=zNq (L:=L) U t (λc s hl j J=>by
   obtain⟨dc,h1,B⟩:=R.chains ops.size (QA _) c s;exact X _ _ hl h1 j (B▸J)) aw D
  unfold zDm at V;split at V
  .rename_i v' H1 n1 p;have:=zYT V;simp only at this p;subst this;obtain⟨e1,e2⟩:=zSB hk (zFI.symm.trans p);subst e1;subst e2;have r:(zm P ops o).op≠.bad:=λe=>by rw[e]at hk;cases hk
   have hp:=zHN (f:=λj=>L j&&!inc.testBit j) (g:=but d.qd inc) (al:=(st ops.size).al) λx _ p=>by
    simp only[but,qr]at p;simp only[t _ p.1,p.2,Bool.and_self]
   have C:=(hp.append_right m).trans (zWA _ _ _);have M:=hr.perm C;refine wpOp_of ho (zBB A q (.inr r)) (zEq (M.sub (List.sublist_append_left _ _)) A hg hm zC1 (zD1 r) (λh h1 B=>by omega) (zFI.symm.trans p) K Q λcv E' w' h1 B I=>?_)
   obtain⟨f1,f2⟩:=Tr.frame M h1 B;have f3:=f2.perm C.symm C.symm;exact same (v:=v') (by rw[l]) I (by rw[l]) (by rw[l]) (by rw[l]) (f1.perm C.symm) ⟨QA _,f3.agree,λh=>(f3.qx h).trans ⟨Or.imp id λ⟨a,b⟩=>by omega,Or.imp id λ⟨a,b⟩=>by omega⟩,f3.qH,f3.qP,f3.own,f3.tape,f3.os,f3.output,f3.size,f3.wh,f3.qn,f3.sig⟩
  .cases V
 |alloc v ob q p=>
  have r:(zm P ops o).op≠.bad:=λe=>by rw[e]at p;simp[xo,zNb]at p
  have aa:HR E ([]++(within (λj=>L j&&!inc.testBit j) (st ops.size).al++m)) w:=hr
  rw[l]at T;refine wpOp_of ho (zBB A q (.inr r)) (zEq (hr.sub (List.nil_sublist _)) A hg hm zC1 (zD1 r) T (zFI.symm.trans p) K Q λcv E' w' h1 B I=>?_)
  obtain⟨f1,f2⟩:=Tr.frame aa h1 B;have e1:cur L' (st ops.size).ch (st ops.size).ms=some (m,inc):=by
   rw[←D];refine zKM λc s=>?_
   have:=zWz hc R S (by rw[l]) c s
   rw[u];simp[this]
  have e2:(within (λj=>L' j&&!inc.testBit j) (st ops.size).al).Perm ((((st i).nx,ob))::within (λj=>L j&&!inc.testBit j) (st ops.size).al):=by
   rw[ab,l];simp only[zDS];have g1:within (λj=>L' j&&!inc.testBit j) nw=within (λj=>L j&&!inc.testBit j) nw:=zCs λx p=>by
    have:x.1≠i:=by have:=ad x p;omega
    have e:L' x.1=L x.1:=by rw[u];simp[this]
    simp only[e]
   have g2:within (λj=>L' j&&!inc.testBit j) (st i).al=within (λj=>L j&&!inc.testBit j) (st i).al:=zCs λx p=>by
    have:x.1≠i:=by have:=low.al x p;omega
    have e:L' x.1=L x.1:=by rw[u];simp[this]
    simp only[e]
   have g3:inc.testBit i=false:=by
    cases h:inc.testBit i with
    |false=>rfl
    |true=>rw[F i h]at U;cases U
   have g4:L' i=true:=z.2 (.inr rfl);simp only[within,g1,g2,g3,g4,U,Bool.not_false,QO];exact List.perm_middle
  have e3:=e2.append_right m;refine close (v:=v) (by rw[l]) I e1 (λj J=>z.2 (.inl (F j J))) (f1.perm e3.symm) ?_
  rw[l];exact f2.perm (.refl _) e3.symm
 |chain v m0 ak ms W n q ay ax p=>
  have r:(zm P ops o).op≠.bad:=λe=>by rw[e]at p;simp[xo,zNb]at p
  have Y:∀c∈nc,L c.1=false:=λc s=>by
   cases h:L c.1 with
   |false=>rfl
   |true=>
    obtain⟨dc,h1,B⟩:=R.chains ops.size (QA _) c (ac▸Qn _ s)
    have I:=(ag c s).2 (i,d.qd) (by rw[l];exact .head _)
    have h4:=X _ _ h h1 i (B▸I)
    rw[U]at h4;cases h4
  have ai:∀c∈(st i).ch,L c.1=true:=λc s=>t _ (ax c s)
  have ah:some (m,inc)=some (m0,ak):=by
   rw[←D,ac,ae,zJA aj Y,l];simp only[cur,U];rw[ay];exact zQR ai
  cases ah;have e1:cur L' (st ops.size).ch (st ops.size).ms=some (W,inc ||| zA0 d.qd (st i).al):=by
   rw[ac,ae,zJA aj λc s=>?_,l]
   .have g4:L' i=true:=z.2 (.inr rfl);simp only[cur,g4]
   .have h1:=(ag c s).1;have:c.1≠i:=by omega
    rw[u,Y c s];simp[this]
  have hp:=zHN (f:=λj=>L j&&!inc.testBit j) (g:=but d.qd inc) (al:=(st ops.size).al) λx _ p=>by
   simp only[but,qr]at p;simp only[t _ p.1,p.2,Bool.and_self]
  have au:within (but d.qd inc) (st ops.size).al=within (but d.qd inc) (st i).al:=by
   rw[ab,l,zDS,zC2,List.nil_append];intro x p;have h1:=ad x p;cases h:but d.qd inc x.1 with
   |false=>rfl
   |true=>
    simp only[but,qr]at h;have:=R.low i d _ hd h.1;omega
  have C:=(hp.append_right m).trans (zWA _ _ _);rw[au]at C;have M:=hr.perm C;rw[l]at T;refine wpOp_of ho (zBB A q (.inr r)) (zEq (M.sub (List.sublist_append_left _ _)) A hg hm N (zD1 r) T (zFI.symm.trans p) K Q λcv E' w' h1 B I=>?_)
  obtain⟨f1,f2⟩:=Tr.frame M h1 B;have e2:within (λj=>L' j&&!(inc ||| zA0 d.qd (st i).al).testBit j) (st ops.size).al=within (λj=>(L j&&!inc.testBit j)&&!but d.qd inc j) (st ops.size).al:=by
   refine zCs λx p=>?_
   have ao:x.1≠i:=zWy hc R S (by rw[l]) x p
   have aq:(zA0 d.qd (st i).al).testBit x.1=d.qd.testBit x.1:=by
    rw[Bool.eq_iff_iff,zFL];refine⟨And.left,λh=>⟨h,?_⟩⟩
    rw[ab,l]at p;rcases QH.1 p with p|p
    .have:=ad x p;have:=R.low i d _ hd h;omega
    .exact⟨x,p,rfl⟩
   have:(x.1==i)=false:=by simp[ao]
   simp only[u,this,Bool.or_false,Nat.testBit_or,aq,but];cases L x.1<;>cases inc.testBit x.1<;>cases d.qd.testBit x.1<;>rfl
  have e3:(W++within (λj=>(L j&&!inc.testBit j)&&!but d.qd inc j) (st ops.size).al).Perm (within (λj=>L' j&&!(inc ||| zA0 d.qd (st i).al).testBit j) (st ops.size).al++W):=by
   rw[e2];exact List.perm_append_comm
  refine close (v:=v) (by rw[l]) I e1 (λj J=>?_) (f1.perm e3) ?_
  .rw[Nat.testBit_or,Bool.or_eq_true,zFL]at J;rcases J with J|J
   .exact z.2 (.inl (F j J))
   .exact z.2 (.inl (t j J.1))
  .rw[l];exact f2.perm C.symm e3
end DRun
end Go.Sy
namespace Go.Sy
def zQS(r:Nat->Option Nat)(o:Oper)(m:Nat):Prop:=
 ∀k,m.testBit k=true->∃e∈o.after,Region.binds .any e=true/\(k=e.on\/∃b,r e.on=some b/\b.testBit k=true)
theorem zNr(b:Array Nat):∀(es:List Edge)(s k:Nat),(es.foldl (λs e=>if Region.binds .any e then s ||| 2 ^ e.on ||| b.getD e.on 0 else s) s).testBit k=true →
  s.testBit k=true\/∃e∈es,Region.binds .any e=true/\(k=e.on\/∃m',b[e.on]?=some m'/\m'.testBit k=true)
 |[],s,k,h=>.inl h
 |e::es,s,k,h=>by
  rcases zNr b es _ k h with h|⟨g,h1,f⟩
  .simp only at h;split at h
   .rename_i c;rw[Nat.testBit_or,Nat.testBit_or,Bool.or_eq_true,Bool.or_eq_true]at h;rcases h with(h|h)|h
    .exact .inl h
    .rw[Nat.testBit_two_pow]at h;exact .inr ⟨e,.head _,c,.inl (by have:=Qc h;exact this.symm)⟩
    .refine .inr ⟨e,.head _,c,.inr ?_⟩
     rw[Array.getD_eq_getD_getElem?]at h;cases hm:b[e.on]? with
     |none=>rw[hm]at h;simp at h
     |some m'=>rw[hm]at h;exact⟨m',rfl,h⟩
   .exact .inl h
  .exact .inr ⟨g,.tail _ h1,f⟩
theorem zOU:∀(os:List Oper)(c:Array Nat),let r:=os.foldl (λc o=>c.push (o.after.foldl (λs e=>if Region.binds .any e then s ||| 2 ^ e.on ||| c.getD e.on 0 else s) 0)) c
  (∀(j m:Nat),c[j]?=some m->r[j]?=some m)/\r.size=c.size+os.length/\∀(j:Nat)(o:Oper),os[j]?=some o->∃m,r[c.size+j]?=some m/\zQS (λj=>r[j]?) o m
 |[],c=>⟨λ_ _ h=>h,rfl,λj o h=>by simp at h⟩
 |o::os,c=>by
  intro r;obtain⟨h1,l,p⟩:=zOU os (c.push (o.after.foldl (λs e=>if Region.binds .any e then s ||| 2 ^ e.on ||| c.getD e.on 0 else s) 0))
  have up:∀(j m:Nat),c[j]?=some m->r[j]?=some m:=λj m h=>h1 j m (by
   have:=(Array.getElem?_eq_some_iff.1 h).1;rw[Array.getElem?_push_lt this];rw[Qe this]at h;exact h)
  have f:r.size=c.size+1+os.length:=by rw[Array.size_push]at l;exact l
  refine⟨up,by rw[f,QZ];omega,λj q g=>?_⟩
  cases j with
  |zero=>
   simp at g;subst g;refine⟨_,h1 c.size _ Array.getElem?_push_size,λk hk=>?_⟩
   rw[←Array.foldl_toList]at hk;rcases zNr c _ 0 k hk with h|⟨e,u,n,h⟩
   .simp at h
   .exact⟨e,by simpa using u,n,h.imp id λ⟨t,a,b⟩=>⟨t,up _ _ a,b⟩⟩
  |succ j=>
   obtain⟨m,a,b⟩:=p j q (by simpa using g)
   refine⟨m,?_,b⟩
   rw[←a];congr 1;simp;omega
theorem zL3{ops:Array Oper}:(Region.before ops).size=ops.size/\∀(j:Nat)(o:Oper),ops[j]?=some o->∃m,(Region.before ops)[j]?=some m/\zQS (λj=>(Region.before ops)[j]?) o m:=by
 have h:=zOU ops.toList #[];have e:Region.before ops=ops.toList.foldl (λc o=>c.push (o.after.foldl (λs e=>if Region.binds .any e then s ||| 2 ^ e.on ||| c.getD e.on 0 else s) 0)) #[]:=by
  rw[Array.foldl_toList];rfl
 rw[e];refine⟨by simpa using h.2.1,λj o f=>?_⟩
 obtain⟨m,a,b⟩:=h.2.2 j o (by simpa using f)
 exact⟨m,by simpa using a,b⟩
theorem zKN{ops:Array Oper}{P:Program}:∀{os:List Oper}{ms:JV}{i:Nat}{d:XD},(zCC ops P os ms)[i]?=some d->∃m,ms[i]?=some m/\d.qd=m
 |o::r,m::ms,0,d,h=>by simp[zCC]at h;exact⟨m,rfl,by rw[←h]⟩
 |o::r,m::ms,i+1,d,h=>by
  simp only[zCC,List.getElem?_cons_succ]at h;obtain⟨c,a,b⟩:=zKN h;exact⟨c,by simpa using a,b⟩
 |[],ms,i,d,h=>by simp[zCC]at h
 |_::_,[],i,d,h=>by simp[zCC]at h
theorem zJB:∀{os:List Oper}{i:Nat},zLy i os=true->∀(j:Nat)(o:Oper),os[j]?=some o->∀e∈o.after,Region.binds .any e=true->e.on<i+j
 |o::r,i,h,0,g,b,e,c,f=>by
  simp at b;subst b;simp only[zLy,qr,QD]at h;have:=h.1 e (by simpa using c)
  simp only[f,Bool.not_true,Bool.false_or]at this;rw[Qg]at this;exact this
 |o::r,i,h,j+1,g,b,e,c,f=>by
  simp only[zLy,qr]at h;have:=zJB h.2 j g (by simpa using b) e c f
  omega
 |[],i,h,j,g,b,e,c,f=>by simp at b
theorem zHO:∀{xs:List XOper}{ds:List XD}{i:Nat}{es:List (Nat×Option Nat×XD)},zI8 i es xs ds=true->∀(k:Nat)(y:XOper)(b:XD),xs[k]?=some y->ds[k]?=some b →
  (∀e∈es,b.qd.testBit e.1=true\/zFJ e.2.1 e.2.2 y.dst b=true)/\∀(j:Nat)(x:XOper)(f:XD),j<k->xs[j]?=some x->ds[j]?=some f->b.qd.testBit (i+j)=true\/zFJ x.dst f y.dst b=true
 |[],_,_,_,_,k,y,b,h,_=>by simp at h
 |_::_,[],_,_,h,_,_,_,_,_=>by simp[zI8]at h
 |r::xs,d0::ds,i,es,h,k,y,b,l,g=>by
  simp only[zI8,qr,QD,Bool.or_eq_true]at h;cases k with
  |zero=>
   simp at l g;subst l;subst g;exact⟨h.1,λj x f p=>by omega⟩
  |succ k=>
   obtain⟨h1,n⟩:=zHO h.2 k y b (by simpa using l) (by simpa using g)
   refine⟨λe q=>h1 e (.tail _ q),λj x f p m c=>?_⟩
   cases j with
   |zero=>
    simp at m c;subst m;subst c;exact h1 _ (.head _)
   |succ j=>
    have:=n j x f (by omega) (by simpa using m) (by simpa using c)
    rwa [show i+(j+1)=i+1+j by omega]
namespace DRun
variable{dl:List Deferred}{P:Program}{G:Cx}{call:Call}{ops:Array Oper}{ds:List XD}{st:Nat->DS}{H0:Heap}{fr0:Fr}{nx0 nt:Nat}
def Ahead(ops:Array Oper)(ds:List XD):Prop:=
 ∀(j:Nat)(o:Oper)(d:XD),ops[j]?=some o->ds[j]?=some d->∀k,d.qd.testBit k=true->∃e∈o.after,Region.binds .any e=true/\(k=e.on\/∃b,ds[e.on]?=some b/\b.qd.testBit k=true)
def Down(ops:Array Oper):Prop:=∀(j:Nat)(o:Oper),ops[j]?=some o->∀e∈o.after,Region.binds .any e=true->e.on<j
theorem any_order(t:zEp P G call)(hm:zAr P G)(R:DRun P G call ops ds st H0 fr0 nx0 nt){E0:Env}{w0:World}(J:HR E0 H0 w0)(M:GR G E0 w0)(D:zDL E0 nx0 (st ops.size).nx)
  (ha:Ahead ops ds) (K:Down ops) {Q:Exit->Act->World->Prop} (O:∀L E w a,(∀j,j<ops.size->L j=true)->Inv dl st ops.size E0 H0 w0 fr0 nt L E w a->Q .normal a w):
  ∀(fuel:Nat)(listed:Array Bool)(E:Env)(a:Act)(w:World),listed.size=ops.size->listed.toList.count false<=fuel →
   (∀(k:Nat)(dk:XD),listed.getD k false=true->ds[k]?=some dk->∀j,dk.qd.testBit j=true->listed.getD j false=true) →
   Inv dl st ops.size E0 H0 w0 fr0 nt (λj=>listed.getD j false) E w a->wpAny P .any ops Q fuel listed a w:=by
 have done:∀(listed:Array Bool),listed.size=ops.size->Region.ready .any ops listed=[]->∀j,j<ops.size->listed.getD j false=true:=by
  intro listed c y j
  induction j using Nat.strongRecOn with
  |_ j N=>
   intro f;cases hl:listed.getD j false with
   |true=>rfl
   |false=>
    have g:j<listed.size:=c▸f
    have:j∈Region.ready .any ops listed:=by
     rw[mem_ready];refine⟨?_,ops[j],Qe f,λe C B=>?_⟩
     .simpa[g]using hl
     .have:=K j _ (Qe f) e C B;exact N e.on this (by omega)
    rw[y]at this;cases this
 intro fuel
 induction fuel with
 |zero=>
  intro listed E a w c hc n m;have q:∀j,j<ops.size->listed.getD j false=true:=by
   intro j f;have g:j<listed.size:=c▸f
   cases hl:listed.getD j false with
   |true=>rfl
   |false=>
    have:false∈listed.toList:=by
     have s:listed[j]=false:=by simpa[g]using hl
     rw[←s];simp
    have:=List.count_pos_iff.2 this;omega
  refine⟨?_,O _ E w a q m⟩
  cases y:Region.ready .any ops listed with
  |nil=>rfl
  |cons x r=>
   have hx:x∈Region.ready .any ops listed:=by rw[y];exact .head _
   obtain⟨h1,o,v,_⟩:=mem_ready.1 hx;have l:=(Array.getElem?_eq_some_iff.1 v).1;have s:=q x l;have g:x<listed.size:=c▸l
   simp[g]at h1 s;rw[s]at h1;cases h1
 |succ fuel N=>
  intro listed E a w c hc n m;refine⟨λy=>O _ E w a (done listed c y) m,λi hi=>?_⟩
  obtain⟨h1,o,v,s⟩:=mem_ready.1 hi;have l:=(Array.getElem?_eq_some_iff.1 v).1;have b:i<listed.size:=c▸l
  have I:listed.getD i false=false:=by simpa[b]using h1
  have z:∀j,(listed.setIfInBounds i true).getD j false=(listed.getD j false||j==i):=by
   intro j;by_cases f:i=j
   .subst f;simp[b]
   .rw[getD_set_ne false f];have:(j==i)=false:=by simp;exact λh=>f h.symm
    simp[this]
  have p:∀(d:XD),ds[i]?=some d->∀j,d.qd.testBit j=true->listed.getD j false=true:=by
   intro d U j f;obtain⟨e,C,B,h|⟨Y,T,F⟩⟩:=ha i o d v U j f
   .rw[h];exact s e C B
   .exact n e.on Y (s e C B) T j F
  refine exec t hm R J M D v I z n p m λW X V u=>N _ W X V (by simpa using c) ?_ ?_ u
  .have T:listed.toList[i]?=some false:=by
    have:listed[i]=false:=by simpa[b]using I
    simp[b,this]
   have F:(listed.setIfInBounds i true).toList=listed.toList.set i true:=by simp
   rw[F,List.count_set (by simpa using b)]
   have S:listed.toList[i]'(by simpa using b)=false:=by simpa[b]using I
   have h6:0<listed.toList.count false:=List.count_pos_iff.2 (by rw[←S];exact Qi _)
   simp only[S];simp;simp at h6 hc;omega
  .intro k dk hk A j f;rw[z]at hk⊢;rw[Bool.or_eq_true,beq_iff_eq]at hk;rcases hk with hk|hk
   .rw[n k dk hk A j f];rfl
   .subst hk;rw[p dk A j f];rfl
end DRun
theorem zTh{P:Program}{G:Cx}{call:Call}{id:Nat}{ops:Array Oper}{xs:List XOper}{ds:List XD}{nt:Nat}{fr fr':Fr}{H H':Heap}{nx B:Nat}(f:zEp P G call)(hm:zAr P G)(ac:P.follows .mixedOrders=true)
  (hc:zD P (.region id ops true)=some (.draw xs ds)) (U:zC6 nt (.draw xs ds)=true) (h:zI7 G call xs ds (fr,H,nx)=some (fr',H',B)):
  nx<=B/\∀(E:Env)(w:World)(a:Act)(Q:Exit->Act->World->Prop)(dl:List Deferred),HR E H w->FrR E w fr a nt->GR G E w->zDL E nx B->a.defers=dl →
   (∀E' w' a',HR E' H' w'->Tr E H w E' H' w' nx B->FrR E' w' fr' a' nt->a'.defers=dl->Q .normal a' w')->(Code.region id ops true).wp P Q a w:=by
 simp only[zD]at hc;split at hc
 .rename_i ae;split at hc
  .rename_i hp;simp only[QK,XC.draw.injEq]at hc;obtain⟨rfl,rfl⟩:=hc;unfold zI7 at h;split at h
   .rename_i s hs;split at h
    .rename_i ak;split at h
     .rename_i m inc D A;simp only[QK,Prod.mk.injEq]at h;obtain⟨rfl,rfl,rfl⟩:=h;obtain⟨st,S,y,e2⟩:=zJb hs;have V:(ops.toList.map (zm P ops)).length=ops.size:=by simp
      rw[V]at y;obtain⟨b1,b2⟩:=zL3 (ops:=ops);have J:∀{j:Nat}{d:XD},(zCC ops P ops.toList (Region.before ops).toList)[j]?=some d->(Region.before ops)[j]?=some d.qd:=λh=>by
       obtain⟨m,a,b⟩:=zKN h;rw[b];simpa using a
      have ad:∀(M:List Oper)(D:List Nat),M.length=D.length->(zCC ops P M D).length=M.length:=by
       intro M
       induction M with
       |nil=>intro D _;simp[zCC]
       |cons o M W=>intro D A;cases D with
        |nil=>simp at A
        |cons m D=>simp[zCC,W D (by simpa using A)]
      have p:DRun.Ahead ops (zCC ops P ops.toList (Region.before ops).toList):=by
       intro j o d I N k hk;obtain⟨m,c1,c2⟩:=b2 j o I;have:=J N;rw[c1]at this;cases this;obtain⟨e,K,F,h|⟨m',h3,h4⟩⟩:=c2 k hk
       .exact⟨e,K,F,.inl h⟩
       .refine⟨e,K,F,.inr ?_⟩
        have hl:e.on<(zCC ops P ops.toList (Region.before ops).toList).length:=by
         rw[ad _ _ (by simp[b1])]
         have:=(Array.getElem?_eq_some_iff.1 h3).1
         simpa[b1]using this
        refine⟨_,QE hl,?_⟩
        have h5:=J (QE hl);have ai:(Region.before ops)[e.on]?=some m':=h3;rw[ai]at h5;rw[←Qs h5];exact h4
      have l:DRun.Down ops:=λj o I e K F=>by
       have:=zJB ae j o (by simpa using I) e K F
       omega
      have T:∀(j:Nat)(d:XD)(k:Nat),(zCC ops P ops.toList (Region.before ops).toList)[j]?=some d->d.qd.testBit k=true->k<j:=by
       intro j
       induction j using Nat.strongRecOn with
       |_ j W=>
        intro d k N hk;have u:j<ops.size:=by
         have:=(Array.getElem?_eq_some_iff.1 (J N)).1;omega
        obtain⟨e,K,F,h|⟨d',h3,h4⟩⟩:=p j _ d (Qe u) N k hk
        .rw[h];exact l j _ (Qe u) e K F
        .have h5:=l j _ (Qe u) e K F;have:=W e.on h5 d' k h3 h4;omega
      have q:∀{j:Nat}{o:Oper},ops[j]?=some o->(ops.toList.map (zm P ops))[j]?=some (zm P ops o):=λh=>by simp[h]
      have R:DRun P G call ops (zCC ops P ops.toList (Region.before ops).toList) st H fr nx nt:=by
       refine⟨λj o I=>?_,S,λj k oj ok dj dk ag u hk aj af=>?_,T,λj o d I N=>?_,λr O=>?_⟩
       .obtain⟨d,h1,h2⟩:=e2 j _ (q I);exact⟨d,h1,by simpa using h2⟩
       .have:=(zHO hp k _ dk (q hk) af).2 j _ dj ag (q u) aj
        simpa[zA9]using this
       .have h1:=QD.1 U _ (QF (q I));rw[zA9,N]at h1
        simpa[Qg]using h1
       .rw[y]at O⊢;exact QD.1 ak r O
      have ab:nx<=s.nx:=by
       have:=R.mono f.le (QV ops.size) (QA _);rw[S,y]at this;exact this
      refine⟨ab,λE w a Q dl O hf hg ao ah hQ=>?_⟩
      refine wp_region_any ac ?_
      obtain⟨d1,d2⟩:=zFl (w':={ w with drawn:=w.drawn+1 }) O ⟨rfl,rfl,rfl,rfl⟩ nx
      refine DRun.any_order (dl:=dl) (E0:=E) (w0:={ w with drawn:=w.drawn+1 }) f hm R d1 (λg v hv=>⟨d2.vr O (hg g v hv).1,(hg g v hv).2.mono d2.qn⟩) (by rw[y];exact ao) p l (λL E' w' a' hL z=>?_) ops.size _ E a _ (by simp) ?_ ?_ ?_
      .obtain⟨m',aa,i1,i2,i3,i4⟩:=z.heap;rw[y]at i1 i3 i4;have low:=R.lows ops.size (QA _);rw[y]at low;have i5:some (m',aa)=some (m,inc):=by
        rw[←i1,A];exact zQR λc hc=>hL _ (low.ch c hc)
       cases i5;have e3:within (λj=>L j&&!inc.testBit j) s.al=within (λj=>!inc.testBit j) s.al:=zCs λx C=>by
        simp only[hL _ (low.al x C),Bool.true_and]
       rw[e3]at i3 i4;have e4:Tr E H { w with drawn:=w.drawn+1 } E' (within (λj=>!inc.testBit j) s.al++m) w' nx s.nx:=by
        refine i4.uH ab λh=>?_
        constructor
        .rintro ⟨j,u,_,h1,h2⟩
         have g1:=R.mono f.le (QV j) (Qh u);have g2:=R.mono f.le (i:=j+1) u (QA _);rw[S]at g1;rw[y]at g2;exact⟨QI g1 h1,QX h2 g2⟩
        .rintro ⟨h1,h2⟩
         have X:∀n,n<=ops.size->h<(st n).nx->∃j,j<n/\(st j).nx<=h/\h<(st (j+1)).nx:=by
          intro n
          induction n with
          |zero=>intro _ hh;rw[S]at hh;exact absurd hh (by simpa using h1)
          |succ n W=>
           intro hn hh;by_cases C:h<(st n).nx
           .obtain⟨j,a,b⟩:=W (by omega) C
            exact⟨j,by omega,b⟩
           .exact⟨n,by omega,by omega,hh⟩
         obtain⟨j,a,b⟩:=X ops.size (QA _) (by rw[y];exact h2)
         exact⟨j,a,hL j a,b⟩
       refine hQ E' w' a' i3 (d2.trans d1 e4) ⟨z.size,λt v ht=>z.fr t v ?_⟩ z.defers
       rw[←ht,←y,←R.frames t ops.size (QA _)];refine zG2 λx C _=>?_
       have low:=R.lows ops.size (QA _);exact hL _ (low.tr x C)
      .simp
      .intro k dk hk;rw[Array.getD_eq_getD_getElem?,Array.getElem?_replicate]at hk;split at hk<;>simp at hk
      .have Y:∀j,(Array.replicate ops.size false).getD j false=false:=λj=>by
        rw[Array.getD_eq_getD_getElem?,Array.getElem?_replicate];split<;>rfl
       refine⟨hf.size,ah,λt v ht=>?_,H,0,?_,λj u=>by simp at u,?_,?_⟩
       .have:scan (λj=>(Array.replicate ops.size false).getD j false) fr t (st ops.size).tr=fr.get t:=by
         have:=zIn (L:=λj=>(Array.replicate ops.size false).getD j false) (fr0:=fr) (t:=t) (r:=[]) (nw:=(st ops.size).tr) λx _ C=>by rw[Y]at C;cases C
         simpa[scan]using this
        rw[this]at ht;exact d2.vr O (hf.get t v ht)
       .obtain⟨nc,nm,k1,k2,k3,_⟩:=(R.last f.le (i:=0) (QV _)).ch;rw[k1,k2,zJA k3 λc _=>Y _,S]
        rfl
       .have:within (λj=>(Array.replicate ops.size false).getD j false&&!Nat.testBit 0 j) (st ops.size).al=[]:=zC2 λx _=>by rw[Y];rfl
        rw[this];exact d1
       .have:within (λj=>(Array.replicate ops.size false).getD j false&&!Nat.testBit 0 j) (st ops.size).al=[]:=zC2 λx _=>by rw[Y];rfl
        rw[this];exact vU.vW (.refl nx) λh=>⟨λ⟨j,_,u,_⟩=>by rw[Y]at u;(cases u),λ⟨a,b⟩=>by omega⟩
     .cases h
    .cases h
   .cases h
  .cases hc
 .cases hc
end Go.Sy
namespace Go.Sy
def zQT:Ext->Exit
 |.normal=>.normal
 |.exit i=>.exit i
 |.ret=>.ret
section
variable{P:Program}{G:Cx}{call:Call}{nt:Nat}
theorem FrR.put{E E':Env}{w w':World}{fr:Fr}{a:Act}{d:Option Nat}{v:AV}{cv:Value}(b:FrR E w fr a nt)(hm:∀{v cv},VR E w v cv->VR E' w' v cv)(c:∀n,d=some n->n<nt)(g:VR E' w' v cv):FrR E' w' (qv fr d v) (a.put d cv) nt:=by
 cases d with
 |none=>exact⟨b.size,λt u h=>hm (b.get t u h)⟩
 |some n=>
  refine⟨by rw[DRun.put_size];exact b.size,λt u h=>?_⟩
  simp only[qv,Fr.qu]at h;have f:n<a.tmps.size:=by rw[b.size];exact c n rfl
  split at h
  .rename_i e;subst e;cases h
   simpa[Act.put,f]using g
  .rename_i e;have:(a.put (some n) cv).tmps.getD t undef=a.tmps.getD t undef:=by simp[Act.put,Array.getElem?_setIfInBounds_ne e]
   rw[this];exact hm (b.get t u h)
theorem GR.step{E E':Env}{H H':Heap}{w w':World}{a b:Nat}(e:HR E H w)(c:GR G E w)(t:Tr E H w E' H' w' a b):GR G E' w':=λg v h=>⟨t.vr e (c g v h).1,(c g v h).2.mono t.qn⟩
end
section
variable{P:Program}{G:Cx}{E:Env}{w:World}{H:Heap}{nx:Nat}
theorem zJ9(sz:Nat):∀(n:Nat)(cs:JE),(chunks sz n cs).length=n
 |0,_=>rfl
 |n+1,cs=>by simp only[chunks,QZ,zJ9 sz n]
theorem zNs{fr:Fr}{a:Act}{nt:Nat}(s:HR E H w)(l:FrR E w fr a nt):∀{rs:List ResultVar}{xs:List XR}{vs:JE},zF9 P rs=some xs->zES H fr xs=some vs →
  ∃cvs:JC,(rs.mapM (m:=Sem) λ|.tmp t=>pure (a.tmps.getD t undef)|.cell x t=>do loadVar t (←asAddr (a.tmps.getD x undef))).run P w=.ok cvs w/\VRs E w vs cvs
 |[],xs,vs,hc,h=>by
  simp only[zF9,QK]at hc;subst hc;simp only[zES,QK]at h;subst h;exact⟨[],by simp,VRs.nil⟩
 |r::rs,xs,vs,hc,h=>by
  simp only[zF9]at hc;split at hc
  .rename_i x y c j;cases hc;simp only[zES]at h;split at h
   .rename_i v e;split at h
    .rename_i C n;cases h;obtain⟨cvs,p,u⟩:=zNs s l j n;cases r with
     |tmp t=>
      simp only[zOd,QK]at c;subst c;exact⟨_::cvs,by simp only[List.mapM_cons,Sem.run_bind,Sem.run_pure,Result.andThen_ok,p],VRs.cons (l.get t v e) u⟩
     |cell b t=>
      simp only[zOd]at c;obtain⟨J,k,c⟩:=za c;obtain⟨K,g,c⟩:=za c;cases c;simp only[zPC]at e;split at e
      .rename_i A f;obtain⟨q,z,D,B,F⟩:=zNh (P:=P) s (l.get b A f) k g e;have I:(asAddr (.pointer (some q))).run P w=.ok q w:=by simp[asAddr]
       refine⟨z::cvs,?_,VRs.cons F u⟩
       simp only[List.mapM_cons,Sem.run_bind,D,I,Sem.run_pure,Result.andThen_ok,B,p]
      .cases e
    .cases h
   .cases h
  .cases hc
def zNt:JC->Value
 |[v]=>v
 |b=>.tuple b.toArray
theorem zKa{fr:Fr}{a:Act}{nt:Nat}{fn:Func}{xs:List XR}{vs:JE}(m:HR E H w)(l:FrR E w fr a nt)(hc:zF9 P fn.results.toList=some xs)(h:zES H fr xs=some vs):
  ∃cv,(results fn a.tmps).run P w=.ok cv w/\VR E w (zA4 vs) cv:=by
 obtain⟨b,g,f⟩:=zNs m l hc h;unfold results;rw[Array.mapM_eq_mapM_toList];refine⟨zNt b,?_,?_⟩
 .rw[Sem.run_bind,Sem.run_map];refine(congrArg (λr=>Result.andThen (Result.andThen r _) _) g).trans ?_
  rw[Result.andThen_ok,Result.andThen_ok];cases b with
  |nil=>simp[zNt]
  |cons v r=>cases r with
   |nil=>simp[zNt]
   |cons u r=>simp[zNt]
 .cases vs with
  |nil=>
   rw[f.of_nil];exact VR.qI (vs:=#[]) VRs.nil
  |cons v r=>
   obtain⟨cv,p,rfl,h1,e⟩:=f.of_cons;cases r with
   |nil=>rw[e.of_nil];exact h1
   |cons u r=>
    obtain⟨k,c,rfl,n,j⟩:=e.of_cons;exact VR.qI (vs:=(cv::k::c).toArray) (VRs.cons h1 (VRs.cons n j))
theorem zKO:∀{n:Nat}{args:JE}{t:Nat}{v:AV},(qG n args).get t=some v->∃i,t=n+i/\args[i]?=some v
 |n,[],t,v,h=>by simp[qG,Fr.get]at h
 |n,x::r,t,v,h=>by
  simp only[qG,Fr.get]at h;split at h
  .rename_i e;cases h;exact⟨0,by rw[←zb e];rfl,rfl⟩
  .obtain⟨i,e,h⟩:=zKO h;exact⟨i+1,by omega,by simpa using h⟩
end
end Go.Sy
namespace Go.Sy
open Go.ChangeShapes
structure Kept(W W':World):Prop where
 kept:∀S:MemPlace->Prop,W.keptBut W' S
 frozen:∀a:Addr,a.block<W.heap.size->W'.frozen? a=W.frozen? a
 size:W.heap.size<=W'.heap.size
 heap:∀b,b<W.heap.size->W'.heap[b]? = W.heap[b]?
 below:RowKit.Below W.heap.size W W'
theorem Kept.vW{E E':Env}{H':Heap}{W c:World}{a b:Nat}(t:Tr E [] W E' H' c a b):Kept W c:=by
 have h:∀b,b<W.heap.size->c.heap[b]? = W.heap[b]?:=λb e=>t.wh b e λp f=>by simp at f
 refine⟨λS=>⟨t.os,t.output,λi g=>?_⟩,λa j=>?_,t.size,h,⟨t.os,t.tape,t.output,t.size,h⟩⟩
 .rw[h i g];cases W.heap[i]? with
  |none=>rfl
  |some o=>cases o<;>simp
 .simp only[World.frozen?,h a.block j]
theorem zUD{H:Type}{enc:TypeId×Value->H}{P:Program}{f:Func}{s:ChangeSpec}{k fresh e n:Bool}{W y:World}{args:JB}{v:Value}{ds gs:List (DataW H)}{c pa pv:List MemPlace}
  (A:DataW.Whole enc P f.params.toList s.vars k W args.toList ds gs c)
  (m:∀(b:Nat)(q:Nat->Bool)(D:Bool),DataW.TrodAll enc P y b q D f.resultTypes.toList (v.resultList f.resultTypes.size) (s.fn H (ds++gs)).results [])
  (g:∀q:Nat->Bool,(∀p∈c,q p.block=true)->DataW.TrodAll enc P y 0 q true f.params.toList args.toList (s.fn H (ds++gs)).args pa)
  (h:∀q:Nat->Bool,(∀p∈c,q p.block=true)->DataW.TrodVars enc P y q s.vars (s.fn H (ds++gs)).vars pv)
  (x:c=pa++pv) (hk:Kept W y)
  (C:∀(j:Nat)(t:TypeId)(r:Value),f.resultTypes[j]?=some t->(v.resultList f.resultTypes.size)[j]?=some r->Value.okWide P y .any 0 t r):
  s.post enc P f k fresh e n W args v y:=by
 have l:∀p∈c,(λb=>decide (b<W.heap.size)) p.block=true:=λp u=>by simpa using A.lt p u
 have B:=λp u=>A.lt p u
 refine⟨ds,gs,c,[],pa,pv,A,m _ _ _,g _ l,h _ l,hk.kept _,λ_=>?_⟩
 obtain⟨_,_,_,_,_,F,I⟩:=A;refine⟨C,_,_,([]++pa)++pv,⟨[]++pa,pv,trodAll_append (g _ (λ_ _=>rfl)) (m _ _ _),h _ (λ_ _=>rfl),rfl,?_,?_⟩,?_⟩
 .intro b off u;have z:MemPlace.cell b off∈c:=by rw[x];simpa using u
  rw[hk.frozen _ (B _ z)];exact F b off z
 .intro J;have:=I J;rw[x]at this
  simpa using this
 .intro p u _;rw[x]
  simpa using u
def Env.still(W:World)(σ:Nat->Value:=λ_=>.bool true):Env:=⟨id,λ_=>False,λb=>b<W.heap.size,σ⟩
theorem HR.still(W:World)(σ:Nat->Value:=λ_=>.bool true):HR (Env.still W σ) [] W:=
 ⟨.nil,λp b=>by simp at b,λp b=>by simp at b,λp b=>by simp at b,λp b=>by simp at b,λ_ c=>c⟩
theorem zTi{P:Program}{G:Cx}{f:FuncId}{args:JE}{cargs:JB}{n:Nat}{H':Heap}{W:World}{σ:Nat->Value}(g:FnT P G f args [] 0 (.bool true) H' n)(l:VRs (Env.still W σ) W args cargs.toList)(j:GR G (Env.still W σ) W):
  Calls P f cargs W λe b=>e=.returned (.bool true)/\Kept W b:=by
 refine(g (Env.still W σ) W cargs (.still W σ) l j λ_ _ _ h=>h).mono λe b h=>?_
 obtain⟨m,p,rfl,h1,c,k⟩:=h;rw[k.of_bool];exact⟨rfl,.vW c⟩
end Go.Sy
namespace Go.Sy
set_option maxRecDepth 8000
def zGI:Option XV->List XV
 |none=>[]
 |some x=>[x]
def XO.qb:XO->List XV
 |.bad =>[]
 |.wH x=>[x]
 |.pick c a b=>[c]++[a]++[b]
 |.bin _ x y=>[x]++[y]
 |.beq _ x y=>[x]++[y]
 |.peq _ x y=>[x]++[y]
 |.qW _ _ x y=>[x]++[y]
 |.vO _ _ _ x y=>[x]++[y]
 |.seq _ x y=>[x]++[y]
 |.v8 _ x y=>[x]++[y]
 |.vZ _ x y=>[x]++[y]
 |.un _ x=>[x]
 |.conv _ x=>[x]
 |.vJ x=>[x]
 |.vB x=>[x]
 |.uf x=>[x]
 |.mark x=>[x]
 |.vt x c=>[x]++[c]
 |.vu x c=>[x]++[c]
 |.uc x _ _ _=>[x]
 |.ext x _=>[x]
 |.wP x i=>[x]++[i]
 |.wc x i _ _ _=>[x]++[i]
 |.box x _=>[x]
 |.alloc _=>[]
 |.build _ j=>j.map (·.2.2)
 |.qy _ _ _ j=>j.map (·.2.2)
 |.load x _ _=>[x]
 |.store a x _=>[a]++[x]
 |.qO x=>[x]
 |.qC x _=>[x]
 |.qB x i _=>[x]++[i]
 |.qz x i _ _=>[x]++[i]
 |.wJ x h e=>[x]++zGI h++zGI e
 |.wy x h e n _=>[x]++zGI h++zGI e++zGI n
 |.vN x h e _ _=>[x]++zGI h++zGI e
 |.wU x=>[x]
 |.wb x=>[x]
 |.vQ x=>[x]
 |.wZ _=>[]
 |.cap x=>[x]
 |.append x y _ _=>[x]++[y]
 |.copy x y _=>[x]++[y]
 |.vY x _ _=>[x]
 |.ua x=>[x]
 |.min x y=>[x]++[y]
 |.max x y=>[x]++[y]
 |.qM l c _ _ _=>[l]++[c]
 |.wu =>[]
 |.lookup _ _ m k _ _=>[m]++[k]
 |.wM _ _ m k v=>[m]++[k]++[v]
 |.del _ _ m k=>[m]++[k]
 |.wg _ first g=>first++g
 |.w4 _ x=>[x]
 |.vT x _ _ _=>[x]
 |.vP x=>[x]
 |.vD x=>[x]
 |.call _ args=>args
 |.qN f args=>[f]++args
 |.invoke r _ args=>[r]++args
theorem zCf{G:Cx}{b c:Fr}:∀{l:List XV},(∀x∈l,x.ev G b=x.ev G c)->evs G b l=evs G c l
 |[],_=>rfl
 |x::r,h=>by simp only[evs,h x (.head _),zCf λy e=>h y (.tail _ e)]
theorem zBL{G:Cx}{b c:Fr}{x:Option XV}(h:∀y∈zGI x,y.ev G b=y.ev G c):evo G b x=evo G c x:=by
 cases x with
 |none=>rfl
 |some y=>simp only[evo,h y (.head _)]
theorem zEX{G:Cx}{e c:Fr}:∀{f:List (Nat×Nat×XV)}{cs:JE},(∀x∈f.map (·.2.2),x.ev G e=x.ev G c)->zAC G e cs f=zAC G c cs f
 |[],_,_=>rfl
 |(a,b,x)::r,cs,h=>by
  simp only[zAC,h x (.head _)];cases x.ev G c with
  |none=>rfl
  |some v=>
   simp only;cases cellsOf v b with
   |none=>rfl
   |some new=>
    simp only;cases Nat.ble (a+b) cs.length with
    |false=>rfl
    |true=>exact zEX λy g=>h y (.tail _ g)
theorem zQU{G:Cx}{call:Call}{p j:Fr}{H:Heap}{nx:Nat}{o:XO}(h:∀x∈o.qb,x.ev G p=x.ev G j):xo G call p H nx o=xo G call j H nx o:=by
 rw[zFI,zFI];cases o with
 |bad =>rfl
 |wH x=>
  have e:=h x (by simp[XO.qb])
  simp only[xoS,e]
 |pick c a b=>
  have e:=h c (by simp[XO.qb])
  have g:=h a (by simp[XO.qb])
  have u:=h b (by simp[XO.qb])
  simp only[xoS,e,g,u]
 |bin op x y=>
  have e:=h x (by simp[XO.qb])
  have g:=h y (by simp[XO.qb])
  simp only[xoS,e,g]
 |beq neg x y=>
  have e:=h x (by simp[XO.qb])
  have g:=h y (by simp[XO.qb])
  simp only[xoS,e,g]
 |peq neg x y=>
  have e:=h x (by simp[XO.qb])
  have g:=h y (by simp[XO.qb])
  simp only[xoS,e,g]
 |qW neg I x y=>
  have e:=h x (by simp[XO.qb])
  have g:=h y (by simp[XO.qb])
  simp only[xoS,e,g]
 |vO neg lit M x y=>
  have e:=h x (by simp[XO.qb])
  have g:=h y (by simp[XO.qb])
  simp only[xoS,e,g]
 |seq neg x y=>
  have e:=h x (by simp[XO.qb])
  have g:=h y (by simp[XO.qb])
  simp only[xoS,e,g]
 |v8 neg x y=>
  have e:=h x (by simp[XO.qb])
  have g:=h y (by simp[XO.qb])
  simp only[xoS,e,g]
 |vZ neg x y=>
  have e:=h x (by simp[XO.qb])
  have g:=h y (by simp[XO.qb])
  simp only[xoS,e,g]
 |un op x=>
  have e:=h x (by simp[XO.qb])
  simp only[xoS,e]
 |conv N x=>
  have e:=h x (by simp[XO.qb])
  simp only[xoS,e]
 |vJ x=>
  have e:=h x (by simp[XO.qb])
  simp only[xoS,e]
 |vB x=>
  have e:=h x (by simp[XO.qb])
  simp only[xoS,e]
 |uf x=>
  have e:=h x (by simp[XO.qb])
  simp only[xoS,e]
 |mark x=>
  have e:=h x (by simp[XO.qb])
  simp only[xoS,e]
 |vt x c=>
  have e:=h x (by simp[XO.qb])
  have g:=h c (by simp[XO.qb])
  simp only[xoS,e,g]
 |vu x c=>
  have e:=h x (by simp[XO.qb])
  have g:=h c (by simp[XO.qb])
  simp only[xoS,e,g]
 |uc x off s F=>
  have e:=h x (by simp[XO.qb])
  simp only[xoS,e]
 |ext x i=>
  have e:=h x (by simp[XO.qb])
  simp only[xoS,e]
 |wP x i=>
  have e:=h x (by simp[XO.qb])
  have g:=h i (by simp[XO.qb])
  simp only[xoS,e,g]
 |wc x i len s F=>
  have e:=h x (by simp[XO.qb])
  have g:=h i (by simp[XO.qb])
  simp only[xoS,e,g]
 |box x s=>
  have e:=h x (by simp[XO.qb])
  simp only[xoS,e]
 |alloc z=>rfl
 |build z D=>
  have e:zAC G p z D=zAC G j z D:=zEX λy q=>h y (by simpa[XO.qb]using q)
  simp only[xoS,e]
 |qy len s z D=>
  have e:zAC G p z D=zAC G j z D:=zEX λy q=>h y (by simpa[XO.qb]using q)
  simp only[xoS,e]
 |load x s F=>
  have e:=h x (by simp[XO.qb])
  simp only[xoS,e]
 |store a x s=>
  have e:=h a (by simp[XO.qb])
  have g:=h x (by simp[XO.qb])
  simp only[xoS,e,g]
 |qO x=>
  have e:=h x (by simp[XO.qb])
  simp only[xoS,e]
 |qC x off=>
  have e:=h x (by simp[XO.qb])
  simp only[xoS,e]
 |qB x i s=>
  have e:=h x (by simp[XO.qb])
  have g:=h i (by simp[XO.qb])
  simp only[xoS,e,g]
 |qz x i len s=>
  have e:=h x (by simp[XO.qb])
  have g:=h i (by simp[XO.qb])
  simp only[xoS,e,g]
 |wJ x A B=>
  have e:=h x (by simp[XO.qb])
  have g:evo G p A=evo G j A:=zBL λy q=>h y (by simp[XO.qb,q])
  have u:evo G p B=evo G j B:=zBL λy q=>h y (by simp[XO.qb,q])
  simp only[xoS,e,g,u]
 |wy x A B J s=>
  have e:=h x (by simp[XO.qb])
  have g:evo G p A=evo G j A:=zBL λy q=>h y (by simp[XO.qb,q])
  have u:evo G p B=evo G j B:=zBL λy q=>h y (by simp[XO.qb,q])
  have K:evo G p J=evo G j J:=zBL λy q=>h y (by simp[XO.qb,q])
  simp only[xoS,e,g,u,K]
 |vN x A B len s=>
  have e:=h x (by simp[XO.qb])
  have g:evo G p A=evo G j A:=zBL λy q=>h y (by simp[XO.qb,q])
  have u:evo G p B=evo G j B:=zBL λy q=>h y (by simp[XO.qb,q])
  simp only[xoS,e,g,u]
 |wU x=>
  have e:=h x (by simp[XO.qb])
  simp only[xoS,e]
 |wb x=>
  have e:=h x (by simp[XO.qb])
  simp only[xoS,e]
 |vQ x=>
  have e:=h x (by simp[XO.qb])
  simp only[xoS,e]
 |wZ n=>rfl
 |cap x=>
  have e:=h x (by simp[XO.qb])
  simp only[xoS,e]
 |append x y s bytes=>
  have e:=h x (by simp[XO.qb])
  have g:=h y (by simp[XO.qb])
  simp only[xoS,e,g]
 |copy x y s=>
  have e:=h x (by simp[XO.qb])
  have g:=h y (by simp[XO.qb])
  simp only[xoS,e,g]
 |vY x s z=>
  have e:=h x (by simp[XO.qb])
  simp only[xoS,e]
 |ua x=>
  have e:=h x (by simp[XO.qb])
  simp only[xoS,e]
 |min x y=>
  have e:=h x (by simp[XO.qb])
  have g:=h y (by simp[XO.qb])
  simp only[xoS,e,g]
 |max x y=>
  have e:=h x (by simp[XO.qb])
  have g:=h y (by simp[XO.qb])
  simp only[xoS,e,g]
 |qM l c s bytes z=>
  have e:=h l (by simp[XO.qb])
  have g:=h c (by simp[XO.qb])
  simp only[xoS,e,g]
 |wu =>rfl
 |lookup F I m k z ok=>
  have e:=h m (by simp[XO.qb])
  have g:=h k (by simp[XO.qb])
  simp only[xoS,e,g]
 |wM F I m k v=>
  have e:=h m (by simp[XO.qb])
  have g:=h k (by simp[XO.qb])
  have u:=h v (by simp[XO.qb])
  simp only[xoS,e,g,u]
 |del F I m k=>
  have e:=h m (by simp[XO.qb])
  have g:=h k (by simp[XO.qb])
  simp only[xoS,e,g]
 |wg fn first C=>
  have e:evs G p first=evs G j first:=zCf λy q=>h y (by simp[XO.qb,q])
  have g:evs G p C=evs G j C:=zCf λy q=>h y (by simp[XO.qb,q])
  simp only[xoS,e,g]
 |w4 t x=>
  have e:=h x (by simp[XO.qb])
  simp only[xoS,e]
 |vT x t ok z=>
  have e:=h x (by simp[XO.qb])
  simp only[xoS,e]
 |vP x=>
  have e:=h x (by simp[XO.qb])
  simp only[xoS,e]
 |vD x=>
  have e:=h x (by simp[XO.qb])
  simp only[xoS,e]
 |call f args=>
  have e:evs G p args=evs G j args:=zCf λy q=>h y (by simp[XO.qb,q])
  simp only[xoS,e]
 |qN f args=>
  have e:=h f (by simp[XO.qb])
  have g:evs G p args=evs G j args:=zCf λy q=>h y (by simp[XO.qb,q])
  simp only[xoS,e,g]
 |invoke r m args=>
  have e:=h r (by simp[XO.qb])
  have g:evs G p args=evs G j args:=zCf λy q=>h y (by simp[XO.qb,q])
  simp only[xoS,e,g]
noncomputable section
variable{nt:Nat->Bool}{G:Cx}
def zG3:List XV->JV
 |[]=>[]
 |.t n::r=>n::zG3 r
 |_::r=>zG3 r
theorem zCR{n:Nat}:∀{l:List XV},XV.t n∈l->n∈zG3 l
 |.t m::r,h=>by
  rcases QG.1 h with h|h
  .cases h;exact .head _
  .exact .tail _ (zCR h)
 |.c v::r,h=>by
  rcases QG.1 h with h|h
  .cases h
  .exact zCR (l:=r) h
 |.g v::r,h=>by
  rcases QG.1 h with h|h
  .cases h
  .exact zCR (l:=r) h
end
end Go.Sy
