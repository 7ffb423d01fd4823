/- A LIBRARY: WHAT A FUNCTION'S CODE RECKONS, AS A LEAN FUNCTION, AND THAT ITS WORD IS THE MODEL'S: part 2 of 6. No condition. -/
import Derived.Test.YtjfcepbllmdfcaaGreatDoorFxA
import Derived.Laws.Build
import Derived.Lib.Bytealg
import Derived.Deep.LoopGhost
import Derived.Scope
import Derived.ChangeSame
import Derived.ChangeShapes
import Derived.ChangeAt
import Derived.KernelRfl
import Derived.Below
set_option linter.unusedVariables false
set_option linter.unusedSimpArgs false
namespace Go.Sy
section
variable{P:Program}{G:Cx}{E:Env}{w:World}{fr:Fr}{a:Act}{nt:Nat}{H:Heap}{nx:Nat}
theorem zTF{b:Array (Nat×Operand)}:(b.map λ(i,x)=>(i,a.eval x)).toList=b.toList.map λ(i,x)=>(i,a.eval x):=by simp
theorem zQY:∀{l:List Field},(∀f∈l,∃s,zS P f.type=some s)->∃b:JN,(l.mapM λf=>do pure (f.offset,←sizeOf f.type):Sem JN).run P w=.ok b w/\b.length=l.length ∧
  ∀(i:Nat) f,l[i]?=some f->∃s,zS P f.type=some s/\b[i]?=some (f.offset,s)
 |[],_=>⟨[],by simp,rfl,λi f h=>by simp at h⟩
 |f::l,h=>by
  obtain⟨s,e⟩:=h f (.head _);obtain⟨b,h1,h2,h3⟩:=zQY (l:=l) (λf j=>h f (.tail _ j))
  refine⟨(f.offset,s)::b,?_,by simp[h2],λi g c=>?_⟩
  .simp only[List.mapM_cons,Sem.run_bind,zAO e,Result.andThen_ok,Sem.run_pure,h1]
  .cases i with
   |zero=>simp at c;subst c;exact⟨s,e,rfl⟩
   |succ i=>simpa using h3 i g (by simpa using c)
theorem zTG{p1 p2:Nat->Option (Nat×Nat)}(h:∀i o s,p1 i=some (o,s)->p2 i=some (o,s)):∀{c:List (Nat×Operand)}{b:List (Nat×Nat×XV)},zDS p1 c=some b->zDS p2 c=some b
 |[],b,hc=>by simpa[zDS]using hc
 |(i,x)::r,b,hc=>by
  simp only[zDS]at hc⊢;split at hc
  .rename_i off j y s f e g;rw[h _ _ _ f,e,zTG h g];exact hc
  .cases hc
theorem zWz(J:HR E H w)(hf:FrR E w fr a nt)(hg:GR G E w){v:AV}{H':Heap}{Y:Nat}{o:Oper}{ae:XO}{call:Sy.Call}(b3:∀c,o.op≠.call c)(hc:zBx P o.op=some ae)
  (aj:zFP E nx Y) (h:xoS G call fr H nx ae=some (v,H',Y)):zAS P E H w nx (execOp a.eval o) v H' Y:=by
 have K:∀{x:Operand}{N:XV}{p:AV},zL x=some N->N.ev G fr=some p->VR E w p (a.eval x):=λh1 h2=>zM hf hg h1 h2
 have U:∀{s:Sem Value}{r:Value}{D:World},(execOp a.eval o=do pure (.value (←s)))->s.run P w=.ok r D->(execOp a.eval o).run P w=.ok (.value r) D:=λh1 h2=>by
  rw[h1];simp[h2]
 have uu:∀{s:Sem Unit}{D:World},(execOp a.eval o=do s;pure .skip)->s.run P w=.ok () D->(execOp a.eval o).run P w=.ok .skip D:=λh1 h2=>by
  rw[h1];simp[h2]
 have ba:∀{x:Operand},(o.op=.move x\/o.op=.assign x)->(∃N,zL x=some N/\ae=.wM N)->zAS P E H w nx (execOp a.eval o) v H' Y:=by
  rintro x C ⟨N,A,e⟩
  rw[e]at h;simp only[xoS]at h;split at h
  .rename_i p F;cases h;exact .pure J (by rcases C with C|C<;>simp[execOp,C]) (K A F)
  .cases h
 have bb:∀{t:TypeId}{m k x:Operand},(execOp a.eval o=do Instr.mapUpdate t (a.eval m) (a.eval k) (a.eval x);pure .skip) →
   (ze (zL m) λm=>ze (zL k) λk=>ze (zL x) λv=>match P.underlying t with
    |some (.map kt _)=>ze (zRR P kt) λq=>some (XO.wR q.1 q.2 m k v)
    |_=>none)=some ae->zAS P E H w nx (execOp a.eval o) v H' Y:=by
  intro t m k x R hc;obtain⟨am,ar,hc⟩:=za hc;obtain⟨ak,b6,hc⟩:=za hc;obtain⟨N,A,hc⟩:=za hc;split at hc
  .rename_i kt et B;obtain⟨q,hq,hc⟩:=za hc;cases hc;unfold zRR at hq;obtain⟨ks,bm,hq⟩:=za hq;obtain⟨ag,X,hq⟩:=za hq;cases hq;simp only[xoS]at h;split at h
   .rename_i hd vk vx hm hk T;split at h
    .cases h
    rename_i be;split at h
    .rename_i es M;split at h
     .rename_i cf b5;cases h;obtain⟨D,r1,r2,r3⟩:=zXo (P:=P) (nx:=nx) J B bm X (K ar hm) (K b6 hk) (K A T) be M b5;exact .vV (s:=Instr.mapUpdate t (a.eval m) (a.eval k) (a.eval x)) ⟨D,r1,r2,r3⟩ λD h=>uu R h
     .cases h
    .cases h
   .cases h
  .cases hc
 cases C:o.op with
 |move x=>rw[C]at hc;obtain⟨N,A,hc⟩:=za hc;cases hc;exact ba (.inl C) ⟨N,A,rfl⟩
 |assign x=>rw[C]at hc;obtain⟨N,A,hc⟩:=za hc;cases hc;exact ba (.inr C) ⟨N,A,rfl⟩
 |pick c x y=>
  rw[C]at hc;obtain⟨ac,bs,hc⟩:=za hc;obtain⟨N,A,hc⟩:=za hc;obtain⟨ay,aq,hc⟩:=za hc;cases hc;simp only[xoS]at h;split at h
  .rename_i hb;split at h
   .rename_i p F;cases h;have I:=(K bs hb).of_bool;exact .pure J (by simp[execOp,C,I,asBool]) (K A F)
   .cases h
  .rename_i hb;split at h
   .rename_i p F;cases h;have I:=(K bs hb).of_bool;exact .pure J (by simp[execOp,C,I,asBool]) (K aq F)
   .cases h
  .cases h
 |alloc e=>
  rw[C]at hc;obtain⟨z,hz,hc⟩:=za hc;cases hc;cases h;exact .qZ (zWc (P:=P) J (aj nx (QB _) (by omega)) hz) λr D h=>U (by simp only[execOp,C]) h
 |box e x=>
  rw[C]at hc;obtain⟨N,A,hc⟩:=za hc;obtain⟨s,O,hc⟩:=za hc;cases hc;simp only[xoS]at h;split at h
  .rename_i p F;split at h
   .rename_i cs aw;cases h;exact .qZ (zYQ (P:=P) (e:=e) J (aj nx (QB _) (by omega)) (K A F) aw) λr D h=>U (by simp only[execOp,C]) h
   .cases h
  .cases h
 |build t ps=>
  rw[C]at hc;obtain⟨z,hz,hc⟩:=za hc;obtain⟨i,cz,hi,b1,cc,cb,ca,h2,h3⟩:=VR.zero (P:=P) (E:=E) (w:=w) (z:=.bool true) (v:=.bool true) (n:=0) hz;have bn:(zeroValue t).run P w=.ok cz w:=by simp[zeroValue,typeInfo,hi,b1]
  have fin:∀{qs:List (Nat×Nat×XV)}{place:Nat->Option (Nat×Nat)},ae=.build z qs->zDS place ps.toList=some qs →
    (∀Q,Instr.fill place cz.cells (ps.toList.map λ(i,x)=>(i,a.eval x))=some Q->(Instr.build t (ps.map λ(i,x)=>(i,a.eval x))).run P w=.ok (.agg Q) w)->zAS P E H w nx (execOp a.eval o) v H' Y:=by
   intro qs place I e2 e3;rw[I]at h;simp only[xoS]at h;split at h
   .rename_i cs aw;cases h;obtain⟨Q,r1,r2,r3,r4⟩:=zNt hf hg e2 aw h2 h3;exact .qq (s:=Instr.build t (ps.map λ(i,x)=>(i,a.eval x))) J ⟨_,e3 _ r1,VR.qP r2 r3⟩ λr D h=>U (by simp only[execOp,C]) h
   .cases h
  split at hc
  .rename_i fs B;split at hc
   .rename_i bq;obtain⟨qs,a6,hc⟩:=za hc;cases hc;obtain⟨pl,p1,p2,p3⟩:=zQY (P:=P) (w:=w) (l:=fs.toList) λf hf=>by
     have:=QH.1 bq f hf;exact Option.isSome_iff_exists.1 this
    have bo:zDS (pl[·]?) ps.toList=some qs:=zTG (λi off sz hi=>by
     obtain⟨f,hf,hi⟩:=za hi;obtain⟨s,O,hi⟩:=za hi;cases hi;obtain⟨s',q1,q2⟩:=p3 i f (by simpa using hf)
     rw[O]at q1;cases q1;exact q2) a6
    refine fin rfl bo λQ ao=>?_
    have hm:(fs.mapM λf=>do pure (f.offset,←sizeOf f.type):Sem (Array (Nat×Nat))).run P w=.ok pl.toArray w:=by
     rw[Array.mapM_eq_mapM_toList];simp only[Sem.run_map,p1,Result.andThen_ok]
    simp only[Instr.build,Sem.run_bind,bn,run_underlying B,Result.andThen_ok,hm];rw[zTF];simp only[List.getElem?_toArray];rw[ao];rfl
   .cases hc
  .rename_i n e B;obtain⟨s,O,hc⟩:=za hc;obtain⟨qs,a6,hc⟩:=za hc;cases hc;refine fin rfl a6 λQ ao=>?_
   simp only[Instr.build,Sem.run_bind,bn,run_underlying B,Result.andThen_ok,zAO O];rw[zTF,ao];rfl
  .cases hc
 |buildSlice t n ps=>
  rw[C]at hc;simp only[zBx]at hc;split at hc
  .rename_i e B;obtain⟨s,O,hc⟩:=za hc;obtain⟨z,hz,hc⟩:=za hc;cases s with
   |zero=>cases hc
   |succ s=>
    simp only at hc;split at hc
    .rename_i aa;obtain⟨qs,a6,hc⟩:=za hc;cases hc;simp only[xoS]at h;split at h
     .rename_i cs aw;cases h;refine .qZ (zUT (P:=P) hf hg J (aj nx (QB _) (by omega)) B O hz (Qz _) (QM aa) a6 aw) λr D h=>U (by
       simp only[execOp,C];congr 2;apply Array.ext';simp) h
     .cases h
    .cases hc
  .cases hc
 |insert t m k x=>rw[C]at hc;exact bb (by simp only[execOp,C]) hc
 |mapUpdate t m k x=>rw[C]at hc;exact bb (by simp only[execOp,C]) hc
 |load t x=>
  rw[C]at hc;obtain⟨N,A,hc⟩:=za hc;obtain⟨s,O,hc⟩:=za hc;obtain⟨g,X,hc⟩:=za hc;cases hc;simp only[xoS]at h;split at h
  .rename_i p F;split at h
   .rename_i u hu;cases h;obtain⟨ad,cv,I,r1,r2⟩:=zR6 (P:=P) J (K A F) O X hu;refine .qq (s:=Instr.loadAt t (a.eval x)) J ⟨cv,?_,r2⟩ λr D h=>U (by simp only[execOp,C]) h
    rw[I];simp[Instr.loadAt,Instr.sureAddr,r1]
   .cases h
  .cases h
 |store t x y=>
  rw[C]at hc;obtain⟨N,A,hc⟩:=za hc;obtain⟨ay,aq,hc⟩:=za hc;obtain⟨s,O,hc⟩:=za hc;cases hc;simp only[xoS]at h;split at h
  .rename_i hd off p T F;split at h
   .rename_i st cs M;split at h
    .rename_i new bt;split at h
     .rename_i aa;cases h;obtain⟨I,_⟩:=(K A T).wB;obtain⟨D,r1,r2,r3⟩:=zV9 (P:=P) J (K aq F) O M bt (QM aa) nx;refine .vV (s:=Instr.storeAt t (a.eval x) (a.eval y)) ⟨D,?_,r2,r3⟩ λD h=>uu (by simp only[execOp,C]) h
      rw[I];simp[Instr.storeAt,Instr.sureAddr,r1]
     .cases h
    .cases h
   .cases h
  .cases h
 |nilCheck x=>
  rw[C]at hc;obtain⟨N,A,hc⟩:=za hc;cases hc;simp only[xoS]at h;split at h
  .rename_i F;cases h;have S:=K A F;have I:=S.wB.1;exact .pure J (by simp only[execOp,C,I];rfl) (I▸S)
  .rename_i F;cases h;have S:=K A F;obtain⟨b,c,u,I,_⟩:=S.w5;exact .pure J (by simp only[execOp,C,I];rfl) (I▸S)
  .rename_i t' v' F;cases h;have S:=K A F;obtain⟨cv,I⟩:∃cv,a.eval x=.iface t' cv:=by
    generalize a.eval x=cx at S;cases S;exact⟨_,rfl⟩
   exact .pure J (by simp only[execOp,C,I];rfl) (I▸S)
  .rename_i F;cases h;have S:=K A F;obtain⟨u1,u2,I⟩:=S.wV;exact .pure J (by simp only[execOp,C,I];rfl) (I▸S)
  .cases h
 |binOp op t x y u=>rw[C]at hc;exact zas J hf hg C hc h
 |unOp op t x=>
  rw[C]at hc;obtain⟨N,A,hc⟩:=za hc;cases hc;simp only[xoS]at h;split at h
  .rename_i p F;split at h
   .rename_i r af;cases h;exact .qq (s:=Op.unary op (a.eval x)) J (zap (P:=P) (K A F) af) λr D h=>U (by simp only[execOp,C]) h
   .cases h
  .cases h
 |convert s d x=>rw[C]at hc;exact zYT J hf hg C hc aj h
 |makeInterface t x=>
  rw[C]at hc;obtain⟨N,A,hc⟩:=za hc;have fin:ae=.w8 t N->P.concrete t=true->zAS P E H w nx (execOp a.eval o) v H' Y:=by
   intro e bp;rw[e]at h;simp only[xoS]at h;split at h
   .rename_i p F;cases h;exact .qq (s:=Instr.makeInterface t (a.eval x)) J ⟨_,run_makeInterface w t _ bp,.iface _ _ _ (K A F)⟩ λr D h=>U (by simp only[execOp,C]) h
   .cases h
  split at hc
  .cases hc
  .rename_i d ab B;cases hc;refine fin rfl ?_
   unfold Program.concrete;rw[B];cases d<;>first|rfl|exact absurd rfl (ab _)
  .cases hc
 |makeFunc fn x y=>
  rw[C]at hc;obtain⟨N,A,hc⟩:=za hc;obtain⟨ay,aq,hc⟩:=za hc;cases hc;simp only[xoS]at h;split at h
  .rename_i p q F hq;cases h;have h1:=zDT hf hg A F;have h2:=zDT hf hg aq hq;refine .qq (s:=Instr.makeFunc fn (x.map a.eval) (y.map a.eval)) J ⟨_,rfl,.func fn p q _ _ (by have:=h1.1;simpa using this) (by have:=h2.1;simpa using this) (λi u v hu S=>h1.2 i u v hu (by simpa using S)) (λi u v hu S=>h2.2 i u v hu (by simpa using S))⟩
    λr D h=>U (by simp only[execOp,C]) h
  .cases h
 |makeMap t r=>
  rw[C]at hc;simp only[zBx]at hc;split at hc
  .cases hc;cases h;exact .qZ (zWd (P:=P) (t:=t) J (aj nx (QB _) (by omega))) λr D h=>U (by simp only[execOp,C];rfl) h
  .cases hc
 |makeSlice t x y=>
  rw[C]at hc;simp only[zBx]at hc;split at hc
  .rename_i e B;obtain⟨N,A,hc⟩:=za hc;obtain⟨ay,aq,hc⟩:=za hc;obtain⟨s,O,hc⟩:=za hc;obtain⟨n,hn,hc⟩:=za hc;obtain⟨z,hz,hc⟩:=za hc;cases s with
   |zero=>cases hc
   |succ s=>
    cases hc;simp only[xoS]at h;split at h
    .rename_i k1 l k2 c hl b7;split at h
     .rename_i q1;split at h
      .rename_i q2;split at h
       .rename_i q3;cases h;have I:=(K A hl).of_int.1;have e2:=(K aq b7).of_int.1;have:=zUh (P:=P) (kl:=k1) (kc:=k2) J (aj nx (QB _) (by omega)) B O hn hz (Qz _) (QM q1) (QM q2) (QM q3)
        exact .qZ (s:=Instr.makeSlice t (a.eval x) (a.eval y)) (by rw[I,e2];exact this) λr D h=>U (by simp only[execOp,C]) h
       .cases h
      .cases h
     .cases h
    .cases h
  .cases hc
 |slice t x lo hi mx=>
  rw[C]at hc;obtain⟨N,A,hc⟩:=za hc;obtain⟨al,bf,hc⟩:=za hc;obtain⟨ah,az,hc⟩:=za hc;obtain⟨am,ar,hc⟩:=za hc;have R:∀r D,(Instr.sliceAt t (a.eval x) (lo.map a.eval) (hi.map a.eval) (mx.map a.eval)).run P w=.ok r D->(execOp a.eval o).run P w=.ok (.value r) D:=λr D h=>U (by simp only[execOp,C]) h
  have bg:∀{m:Option XV},zKF mx=some m->m=none->mx=none:=λh1 h2=>by
   cases mx with
   |none=>rfl
   |some m=>subst h2;simp only[zKF]at h1;split at h1<;>cases h1
  split at hc
  .rename_i B;split at hc
   .cases hc;have bh:=bg ar rfl;simp only[xoS]at h;split at h
    .rename_i s l u T hl hh;split at h
     .rename_i t' I;split at h
      .rename_i l' e2;cases h;have:=zXp (P:=P) (w:=w) B (K A T) (zFQ hf hg az hh) (zFQ hf hg bf hl) I e2;rw[bh]at R;exact .qq J this R
      .cases h
     .cases h
    .cases h
   .cases hc
  .rename_i e B;obtain⟨s,O,hc⟩:=za hc;cases s with
   |zero=>cases hc
   |succ s=>
    have fin:ae=.wA N al ah am (s+1)->(am≠none->ah≠none)->zAS P E H w nx (execOp a.eval o) v H' Y:=by
     intro I bw;rw[I]at h;simp only[xoS]at h;split at h
     .rename_i p l u m T hl hh hm;split at h
      .rename_i r af;cases h;refine .qq J (zWb (P:=P) (w:=w) B O (Qz _) (K A T) (zFQ hf hg az hh) (zFQ hf hg bf hl) (zFQ hf hg ar hm) ?_ af) R
       intro hn b4;refine bw (λe=>hn ?_) ?_
       .rw[bg ar e];rfl
       .cases hi with
        |none=>simp only[zKF]at az;cases az;rfl
        |some y=>cases b4
      .cases h
     .cases h
    simp only at hc;split at hc
    .cases hc
    .rename_i b2;cases hc;refine fin rfl λh1 h2=>?_
     cases am with
     |none=>exact h1 rfl
     |some m=>exact b2 m rfl h2
  .rename_i n e B;obtain⟨s,O,hc⟩:=za hc;cases s with
   |zero=>cases hc
   |succ s=>
    simp only at hc;split at hc
    .split at hc
     rotate_left
     .cases hc
     rename_i bz;cases hc;have bh:=bg ar rfl;simp only[xoS]at h;split at h
     .rename_i hd off l u T hl hh;split at h
      .rename_i st cs M;split at h
       .rename_i aa;split at h
        .rename_i t' I;split at h
         .rename_i l' e2;cases h;have b9:=QM aa;obtain⟨q1,q2,q3⟩:=zE7 (P:=P) (sl:=false) (w:=w) (zFQ hf hg az hh) (zFQ hf hg bf hl) I e2 (QB _) (QB _);obtain⟨e3,hD⟩:=(K A T).wB;obtain⟨c,e',f,hb,cg,b8⟩:=CR.ve (J.obj _ (Heap.qj M));have cj:cs.length<=c.size:=by have:=b8.1;simpa using this
          refine .qq (s:=Instr.sliceAt t (a.eval x) (lo.map a.eval) (hi.map a.eval) (mx.map a.eval)) J ⟨.slice (some (if n=l' then⟨E.ρ hd,off,none⟩else(⟨E.ρ hd,off,none⟩:Addr).add (l'*(s+1)))) (t'-l') (n-l'),?_,?_⟩ R
          .rw[e3,bh];simp[Instr.sliceAt,run_underlying B,Instr.sureAddr,q1,zAO O]
          .by_cases bu:n=l'
           .rw[if_pos bu];have e5:t'-l'=0:=by omega
            have e6:n-l'=0:=by omega
            rw[e5,e6];exact .wm _ _ _ _ _
           .rw[if_neg bu,zBj];have ch:=QM bz;refine .row _ _ _ _ _ _ _ hD (by omega) (by omega) (Qz _) (QB _) (λ_=>rfl) ⟨c,e',f,hb,?_⟩
            have:l'*(s+1)+(n-l')*(s+1)=n*(s+1):=by rw[←Nat.add_mul];congr 1;omega
            omega
         .cases h
        .cases h
       .cases h
      .cases h
     .cases h
    .cases hc
  .cases hc
 |fieldAddr t x i=>
  rw[C]at hc;obtain⟨N,A,hc⟩:=za hc;obtain⟨fs,W,hc⟩:=za hc;obtain⟨f,a8,hc⟩:=za hc;obtain⟨s,O,hc⟩:=za hc;have B:P.underlying t=some (.struct fs):=by
   unfold zQA at W;split at W
   .cases W;assumption
   .cases W
  cases s with
  |zero=>cases hc
  |succ s=>
   cases hc;simp only[xoS]at h;split at h
   .rename_i hd off F;cases h;obtain⟨I,hD⟩:=(K A F).wB;refine .qq (s:=Instr.fieldAt t (a.eval x) i) J ⟨_,by rw[I];exact zQU (P:=P) (w:=w) B a8 O,.ptr _ _ hD⟩ λr D h=>U (by simp only[execOp,C]) h
   .rename_i e off F;cases h;obtain⟨b,c,u,I,q1,q2,q3,q4⟩:=(K A F).w5;refine .qq (s:=Instr.fieldAt t (a.eval x) i) J ⟨_,by rw[I];exact zQU (P:=P) (w:=w) B a8 O,?_⟩ λr D h=>U (by simp only[execOp,C]) h
    rw[Nat.add_assoc];exact .qc e _ b c u q1 q2 q3 q4
   .cases h
 |field t x i=>
  rw[C]at hc;obtain⟨N,A,hc⟩:=za hc;obtain⟨fs,W,hc⟩:=za hc;obtain⟨f,a8,hc⟩:=za hc;obtain⟨s,O,hc⟩:=za hc;obtain⟨g,X,hc⟩:=za hc;cases hc;have B:P.underlying t=some (.struct fs):=by
   unfold zQA at W;split at W
   .cases W;assumption
   .cases W
  simp only[xoS]at h;split at h
  .rename_i cs F;split at h
   .rename_i r af;cases h;obtain⟨vs,I,q1,q2⟩:=(K A F).qY;obtain⟨cv,r1,r2⟩:=zR5 (P:=P) q1 q2 O X af;refine .qq (s:=Instr.field t (a.eval x) i) J ⟨cv,?_,r2⟩ λr D h=>U (by simp only[execOp,C]) h
    rw[I];simp[Instr.field,run_underlying B,a8,asAgg,r1]
   .cases h
  .cases h
 |indexAddr t x i=>
  rw[C]at hc;obtain⟨N,A,hc⟩:=za hc;obtain⟨ai,V,hc⟩:=za hc;have R:∀r D,(Instr.indexAt t (a.eval x) (a.eval i)).run P w=.ok r D->(execOp a.eval o).run P w=.ok (.value r) D:=λr D h=>U (by simp only[execOp,C]) h
  split at hc
  .rename_i e B;obtain⟨s,O,hc⟩:=za hc;cases s with
   |zero=>cases hc
   |succ s=>
    cases hc;simp only[xoS]at h;split at h
    .rename_i bc es p T F;split at h
     .rename_i bk;split at h
      .rename_i y hy;cases h;exact .qq J (zO5 (P:=P) B O (K A T) (K V F) (.inl ⟨bc,es,y,rfl,bk,hy,rfl⟩)) R
      .cases h
     .cases h
    .rename_i hd off len bc cp ex p T F;split at h
     .rename_i bk;split at h
      .rename_i y hy;cases h;exact .qq J (zO5 (P:=P) B O (K A T) (K V F) (.inr ⟨hd,off,len,bc,cp,ex,y,rfl,bk,hy,rfl⟩)) R
      .cases h
     .cases h
    .cases h
  .rename_i n e B;obtain⟨s,O,hc⟩:=za hc;cases s with
   |zero=>cases hc
   |succ s=>
    cases hc;simp only[xoS]at h;split at h
    .rename_i hd off p T F;split at h
     .rename_i j hj;cases h;obtain⟨I,hD⟩:=(K A T).wB;refine .qq (s:=Instr.indexAt t (a.eval x) (a.eval i)) J ⟨_,by rw[I];exact zO4 (P:=P) B O (K V F) hj,?_⟩ R
      rw[zBj];exact .ptr _ _ hD
     .cases h
    .rename_i e' off p T F;split at h
     .rename_i j hj;cases h;obtain⟨b,c,u,I,q1,q2,q3,q4⟩:=(K A T).w5;refine .qq (s:=Instr.indexAt t (a.eval x) (a.eval i)) J ⟨_,by rw[I];exact zO4 (P:=P) B O (K V F) hj,?_⟩ R
      rw[zBj,Nat.add_assoc];exact .qc e' _ b c u q1 q2 q3 q4
     .cases h
    .cases h
  .cases hc
 |index t x i=>
  rw[C]at hc;obtain⟨N,A,hc⟩:=za hc;obtain⟨ai,V,hc⟩:=za hc;have R:∀r D,(Instr.index t (a.eval x) (a.eval i)).run P w=.ok r D->(execOp a.eval o).run P w=.ok (.value r) D:=λr D h=>U (by simp only[execOp,C]) h
  split at hc
  .rename_i B;cases hc;simp only[xoS]at h;split at h
   .rename_i s k n T hn;split at h
    .rename_i b hb;cases h;obtain⟨I,_⟩:=(K V hn).of_int;refine .qq (s:=Instr.index t (a.eval x) (a.eval i)) J ?_ R
     rw[I];exact zXq (P:=P) B (K A T) hb
    .cases h
   .cases h
  .rename_i n e B;obtain⟨s,O,hc⟩:=za hc;obtain⟨g,X,hc⟩:=za hc;cases hc;simp only[xoS]at h;split at h
   .rename_i cs p T F;split at h
    .rename_i j hj;split at h
     .rename_i r af;cases h;exact .qq J (zXr (P:=P) B O X (K A T) (K V F) hj af) R
     .cases h
    .cases h
   .cases h
  .cases hc
 |lookup t x i ok=>
  rw[C]at hc;obtain⟨N,A,hc⟩:=za hc;obtain⟨ai,V,hc⟩:=za hc;split at hc
  .rename_i kt et B;obtain⟨q,hq,hc⟩:=za hc;obtain⟨z,hz,hc⟩:=za hc;cases hc;unfold zRR at hq;obtain⟨ks,bm,hq⟩:=za hq;obtain⟨ag,X,hq⟩:=za hq;cases hq;simp only[xoS]at h;split at h
   .rename_i m k hm hk;split at h
    .cases h
    rename_i be;have fin:=λhh=>zUS (P:=P) (ok:=ok) (v:=v) J B bm X hz (K A hm) (K V hk) be hh
    have R:∀r D,(Instr.lookup t (a.eval x) (a.eval i) ok).run P w=.ok r D->(execOp a.eval o).run P w=.ok (.value r) D:=λr D h=>U (by simp only[execOp,C]) h
    split at h
    .cases h;exact .qq J (fin (.inl ⟨rfl,rfl⟩)) R
    .split at h
     .rename_i es M;split at h
      .rename_i u hu;cases h;exact .qq J (fin (.inr ⟨_,es,some u,rfl,M,hu,rfl⟩)) R
      .rename_i hu;cases h;exact .qq J (fin (.inr ⟨_,es,none,rfl,M,hu,rfl⟩)) R
      .cases h
     .cases h
    .cases h
   .cases h
  .cases hc
 |range t x=>
  rw[C]at hc;obtain⟨N,A,hc⟩:=za hc;split at hc
  .rename_i B;cases hc;simp only[xoS]at h;split at h
   .rename_i s O;cases h;exact .qZ (zXs (P:=P) J (aj nx (QB _) (by omega)) (K A O) B) λr D h=>U (by simp only[execOp,C]) h
   .cases h
  .cases hc
 |next it b=>
  rw[C]at hc;cases b with
  |false=>cases hc
  |true=>
   obtain⟨N,A,hc⟩:=za hc;cases hc;simp only[xoS]at h;split at h
   .rename_i hd F;obtain⟨I,hD⟩:=(K A F).wB;have R:∀r D,(Instr.next (.pointer (some ⟨E.ρ hd,0,none⟩)) true o.type).run P w=.ok r D->(execOp a.eval o).run P w=.ok (.value r) D:=λr D h=>U (by simp only[execOp,C,I]) h
    split at h
    .rename_i s pos M;split at h
     .rename_i aa;split at h
      .rename_i au;split at h
       .rename_i b hb;cases h;exact .qZ (zQW (P:=P) J hD M (QM aa) (.inl ⟨by rw[Qi]at au;exact au,b,hb,rfl,rfl⟩)) R
       .cases h
      .rename_i au;cases h;exact .qZ (zQW (P:=P) J hD M (QM aa) (.inr ⟨(λhh=>by
        have:Nat.blt pos s.length=true:=by rw[Qi];exact hh
        rw[this]at au;cases au),rfl,rfl⟩)) R
     .cases h
    .cases h
   .cases h
 |typeAssert x t u ok=>
  rw[C]at hc;obtain⟨N,A,hc⟩:=za hc;obtain⟨z,hz,hc⟩:=za hc;obtain⟨cz,z1,z2⟩:=zQS (w:=w) hz;have R:∀r D,(Instr.typeAssert (a.eval x) t u ok).run P w=.ok r D->(execOp a.eval o).run P w=.ok (.value r) D:=λr D h=>U (by simp only[execOp,C]) h
  have fin:∀d,P.underlying u=some d->(∀ms,d≠.interface ms)->ae=.ug N u ok z->zAS P E H w nx (execOp a.eval o) v H' Y:=by
   intro d B ab I;rw[I]at h;simp only[xoS]at h;split at h
   .rename_i t' y F;have S:=K A F;obtain⟨cy,e2,hy⟩:∃cy,a.eval x=.iface t' cy/\VR E w y cy:=by
     generalize a.eval x=cx at S;cases S;exact⟨_,rfl,by assumption⟩
    split at h
    .rename_i a7;have:=zb a7;subst this;cases h;refine .qq (s:=Instr.typeAssert (a.eval x) t t' ok) J ?_ R
     rw[e2];cases ok
     .refine⟨cy,?_,hy⟩
      cases d<;>first|exact absurd rfl (ab _)|simp[Instr.typeAssert,run_underlying B]
     .refine⟨.tuple #[cy,.bool true],?_,zKI hy⟩
      cases d<;>first|exact absurd rfl (ab _)|simp[Instr.typeAssert,run_underlying B]
    .rename_i a7;split at h
     .cases h;have bv:¬t'=u:=λe=>by rw[e,Nat.beq_refl]at a7;cases a7
      refine .qq (s:=Instr.typeAssert (a.eval x) t u true) J ⟨.tuple #[cz,.bool false],?_,zKI z2⟩ R
      rw[e2];cases d<;>first|exact absurd rfl (ab _)|simp[Instr.typeAssert,run_underlying B,bv,z1]
     .cases h
   .rename_i F;have S:=K A F;have e2:a.eval x=.nilIface:=by
     generalize a.eval x=cx at S;cases S;rfl
    split at h
    .cases h;refine .qq (s:=Instr.typeAssert (a.eval x) t u true) J ⟨.tuple #[cz,.bool false],?_,zKI z2⟩ R
     rw[e2];cases d<;>first|exact absurd rfl (ab _)|simp[Instr.typeAssert,run_underlying B,z1]
    .cases h
   .cases h
  split at hc
  .cases hc
  .rename_i d ab B;cases hc;exact fin d B (λms e=>ab ms e) rfl
  .cases hc
 |extract t i=>
  rw[C]at hc;obtain⟨N,A,hc⟩:=za hc;cases hc;simp only[xoS]at h;split at h
  .rename_i vs F;split at h
   .rename_i u hu;cases h;obtain⟨us,I,S⟩:=(K A F).va;obtain⟨cv,r1,r2⟩:=S.getElem? hu;have b0:us[i]?=some cv:=by simpa using r1
    refine .qq (s:=Instr.extract (a.eval t) i) J ⟨cv,?_,r2⟩ λr D h=>U (by simp only[execOp,C]) h
    rw[I];simp[Instr.extract,b0]
   .cases h
  .cases h
 |call c=>exact absurd C (b3 c)
 |_=>rw[C]at hc;cases hc
end
def FnT(P:Program)(G:Cx)(f:FuncId)(args:JE)(H:Heap)(nx:Nat)(v:AV)(H':Heap)(c:Nat):Prop:=
 ∀(E:Env)(w:World)(b:JB),HR E H w->VRs E w args b.toList->GR G E w->zFP E nx c →
  Calls P f b w λe h=>∃j g,e=.returned j/\HR g H' h/\Tr E H w g H' h nx c/\VR g h v j
def Enters(P:Program)(f:FuncId):Prop:=∃fn b,P.funcs[f]?=some fn/\fn.body=some b/\(fn.name == "runtime.NumGoroutine")=false
def zFR(P:Program)(G:Cx)(call:Sy.Call):Prop:=∀f args H nx v c b,call f args H nx=some (v,c,b)->Enters P f/\nx<=b/\FnT P G f args H nx v c b
def zAZ(P:Program)(G:Cx):Prop:=∀t m f,G.uP t m=some f->∀(v:Value)(w:World),(method (P.types.size+Made.depth) t v m).run P w=.ok (f,v) w
theorem zE9{P:Program}{G:Cx}:zFR P G zf:=λ_ _ _ _ _ _ _ h=>by cases h
section
variable{P:Program}{G:Cx}{E:Env}{w:World}{fr:Fr}{a:Act}{nt:Nat}{H:Heap}{nx:Nat}
def OpT(P:Program)(o:Oper)(a:Act)(E:Env)(H:Heap)(w:World)(nx:Nat)(v:AV)(H':Heap)(c:Nat):Prop:=
 ∀(next:Act->World->Prop)(Q:Exit->Act->World->Prop),(∀f e b,HR e H' b->Tr E H w e H' b nx c->VR e b v f->next (a.put o.dst f) b)->o.wp P a w next Q
theorem OpT.vD{o:Oper}{v:AV}{H':Heap}{b:Nat}(h:zAS P E H w nx (execOp a.eval o) v H' b):OpT P o a E H w nx v H' b:=by
 intro next Q f;obtain⟨j,c,e,h1,h2,h3,h4|⟨h4,g⟩⟩:=h
 .unfold Oper.wp;rw[h4];exact f j c e h1 h2 h3
 .unfold Oper.wp;rw[h4];subst g;exact f _ c e h1 h2 h3
theorem OpT.vW{o:Oper}{v:AV}{H':Heap}{b:Nat}{f:FuncId}{args:JE}{cargs:JB}(n:HR E H w)(k:GR G E w)(c:zFP E nx b)(q:VRs E w args cargs.toList)(j:FnT P G f args H nx v H' b)
  (r:(execOp a.eval o).run P w=.ok (.enter f cargs) w):OpT P o a E H w nx v H' b:=by
 intro next Q p;unfold Oper.wp;rw[r];refine(j E w cargs n q k c).mono λe g h=>?_
 obtain⟨l,m,rfl,h1,h2,h3⟩:=h;exact p l m g h1 h2 h3
theorem zKT{f:FuncId}{args:JB}(h:Enters P f):(callFunc f args).run P w=.ok (.enter f args) w:=by
 obtain⟨fn,b,h1,h2,h3⟩:=h;have h4:¬fn.name = "runtime.NumGoroutine":=by simpa using h3
 simp[callFunc,h1,h2,h4]
theorem zWA(c:UInt8):∀(l:List UInt8)(i:Nat),zRQ c.toNat i (l.map UInt8.toNat)=if Lib.indexByte l c=-1 then -1 else Lib.indexByte l c+(i:Int)
 |[],i=>by simp[zRQ,Lib.indexByte]
 |a::l,i=>by
  simp only[QZ,zRQ,Lib.indexByte];by_cases e:a=c
  .subst e;have:Nat.beq a.toNat a.toNat=true:=Nat.beq_refl _;simp[this]
  .have h1:Nat.beq a.toNat c.toNat=false:=by
    cases h:Nat.beq a.toNat c.toNat with
    |false=>rfl
    |true=>exact absurd (UInt8.toNat_inj.1 (zb h)) e
   have h2:(a==c)=false:=by simpa using e
   have h3:=Lib.indexByte_ge l c;have f:=zWA c l (i+1);simp only[h1,h2];rw[f];by_cases b:Lib.indexByte l c=-1
   .simp[b]
   .have j:(Lib.indexByte l c==-1)=false:=by simpa using b
    have g:¬(Lib.indexByte l c+1=-1):=by omega
    simp[b,g];omega
theorem zO8(c:UInt8):∀l:List UInt8,Lib.indexByte l c<l.length\/Lib.indexByte l c=-1
 |[]=>.inr rfl
 |a::l=>by
  simp only[Lib.indexByte,QL];split
  .left;omega
  .split
   .exact .inr rfl
   .rename_i h;have b:¬Lib.indexByte l c=-1:=by simpa using h
    rcases zO8 c l with h1|h1
    .left;omega
    .exact absurd h1 b
theorem zWB(c:UInt8):∀l:List UInt8,zTq c.toNat (l.map UInt8.toNat)=Lib.countByte l c
 |[]=>rfl
 |a::l=>by
  have b:=zWB c l;simp only[QZ,zTq,Lib.countByte,List.count_cons]at b⊢;by_cases e:a=c
  .subst e;have:Nat.beq a.toNat a.toNat=true:=Nat.beq_refl _;simp[this,b]
  .have h1:Nat.beq a.toNat c.toNat=false:=by
    cases h:Nat.beq a.toNat c.toNat with
    |false=>rfl
    |true=>exact absurd (UInt8.toNat_inj.1 (zb h)) e
   simp[h1,b,e]
theorem zSc {fn:Func} (h:fn.name = "internal/bytealg.IndexByteString") (ho:fn.origin = ""):Extern.findNext fn=none/\Extern.find fn=some Extern.BytealgIndexByte.indexByte:=by
 have c:Extern.allGenericRows.lookup "internal/bytealg.IndexByteString"=none:=by kernel_rfl
 have g:Extern.allTypedRows.lookup "internal/bytealg.IndexByteString"=none:=by kernel_rfl
 have e:Extern.allRows.lookup "internal/bytealg.IndexByteString"=some Extern.BytealgIndexByte.indexByte:=by kernel_rfl
 have f:Extern.allNextRows.lookup "internal/bytealg.IndexByteString"=none:=by kernel_rfl
 have b:Extern.allNextRows.lookup ""=none:=by kernel_rfl
 exact⟨by simp only[Extern.findNext,h,ho,f,b];rfl,by simp only[Extern.find,h,c,g,e];rfl⟩
theorem zSd {fn:Func} (h:fn.name = "internal/bytealg.CountString") (ho:fn.origin = ""):Extern.findNext fn=none/\Extern.find fn=some Extern.BytealgCount.count:=by
 have c:Extern.allGenericRows.lookup "internal/bytealg.CountString"=none:=by kernel_rfl
 have g:Extern.allTypedRows.lookup "internal/bytealg.CountString"=none:=by kernel_rfl
 have e:Extern.allRows.lookup "internal/bytealg.CountString"=some Extern.BytealgCount.count:=by kernel_rfl
 have f:Extern.allNextRows.lookup "internal/bytealg.CountString"=none:=by kernel_rfl
 have b:Extern.allNextRows.lookup ""=none:=by kernel_rfl
 exact⟨by simp only[Extern.findNext,h,ho,f,b];rfl,by simp only[Extern.find,h,c,g,e];rfl⟩
theorem zWC{b:Nat}(h:has .u8 (Int.ofNat b)):((Int.ofNat b).toNat.toUInt8).toNat=b:=by
 have h2:(Int.ofNat b)<=255:=h.2;have h3:b<=255:=by
  have:(b:Int)<=255:=h2;omega
 show(b.toUInt8).toNat=b
 rw[Nat.toUInt8_eq,UInt8.toNat_ofNat'];omega
theorem zUV(O:HR E H w)(T:FrR E w fr a nt)(Q:GR G E w){v:AV}{H':Heap}{B:Nat}{o:Oper}{f:FuncId}{fn:Func}{args:Array Operand}{ts:Array TypeId}{as:List XV}{F:XO}{call:Sy.Call}
  (ho:o.op=.call ⟨.value (.func f),args,ts⟩) (N:P.funcs[f]?=some fn) (hb:fn.body=none) (A:zES args.toList=some as) (hc:zbr fn as=some F) (h:xoS G call fr H nx F=some (v,H',B)):
  zAS P E H w nx (execOp a.eval o) v H' B:=by
 have M:fn.body.isNone=true:=by rw[hb];rfl
 unfold zbr at hc;split at hc
 rotate_left
 .cases hc
 rename_i x y k;have k:fn.origin = "":=by simpa using k
 have m:∀{p q:AV}{e:JB->Sem Value},x.ev G fr=some p->y.ev G fr=some q->(fn.name == "runtime.NumGoroutine")=false->Extern.findNext fn=none->Extern.find fn=some e →
   ∃t n,VR E w p t/\VR E w q n/\∀r J,(e #[t,n]).run P w=.ok r J->(execOp a.eval o).run P w=.ok (.value r) J:=by
  intro p q e S R V h1 h2;have D:=zDT T Q A (show evs G fr [x,y]=some [p,q] by simp only[evs,S,R])
  obtain⟨t,X,I,v1,D⟩:=D.of_cons;obtain⟨n,Y,rfl,v2,D⟩:=D.of_cons;rw[D.of_nil]at I;refine⟨t,n,v1,v2,λr J C=>?_⟩
  have W:args.map a.eval=#[t,n]:=by
   apply Array.ext'
   simpa using I
  simp only[execOp,ho,resolve,Sem.run_bind,W,Act.eval,Deferred.ofValue,Sem.run_pure,Result.andThen_ok,invoke];have:=run_callFunc_extern (P:=P) N V M h1 h2 #[t,n] w;rw[C]at this
  simpa using this
 split at hc
 .rename_i c;have c:fn.name = "internal/bytealg.IndexByteString":=by simpa using c
  cases hc;simp only[xoS]at h;split at h
  .rename_i s b K we;cases h;obtain⟨t,n,v1,v2,C⟩:=m K we (by rw[c];rfl) (zSc c k).1 (zSc c k).2
   obtain⟨j,rfl,l,g⟩:=v1.wc;obtain⟨rfl,u⟩:=v2.of_int;refine .pure O (C _ _ (Lib.run_indexByteString j _ w)) ?_
   have z:=zWA ((Int.ofNat b).toNat.toUInt8) j.data.toList 0;rw[zWC u,l]at z;have I:zRQ b 0 s=Lib.indexByte j.data.toList ((Int.ofNat b).toNat.toUInt8):=by
    rw[z];split
    .rename_i h1;exact h1.symm
    .simp
   rw[I];refine .int _ _ ⟨?_,?_⟩
   .have:=Lib.indexByte_ge j.data.toList ((Int.ofNat b).toNat.toUInt8);show(-9223372036854775808:Int)<=_
    omega
   .show _<=(9223372036854775807:Int)
    have U:j.data.toList.length<=9223372036854775807:=by rw[←l]at g;simpa[zh]using g
    rcases zO8 ((Int.ofNat b).toNat.toUInt8) j.data.toList with h1|h1<;>omega
  .cases h
 .split at hc
  .rename_i c;have c:fn.name = "internal/bytealg.CountString":=by simpa using c
   cases hc;simp only[xoS]at h;split at h
   .rename_i s b K we;cases h;obtain⟨t,n,v1,v2,C⟩:=m K we (by rw[c];rfl) (zSd c k).1 (zSd c k).2
    obtain⟨j,rfl,l,g⟩:=v1.wc;obtain⟨rfl,u⟩:=v2.of_int;refine .pure O (C _ _ (Lib.run_countString j _ w)) ?_
    have z:=zWB ((Int.ofNat b).toNat.toUInt8) j.data.toList;rw[zWC u,l]at z;rw[z];refine .int _ _ ⟨?_,?_⟩
    .show(-9223372036854775808:Int)<=((Lib.countByte j.data.toList ((Int.ofNat b).toNat.toUInt8):Nat):Int)
     omega
    .show((Lib.countByte j.data.toList ((Int.ofNat b).toNat.toUInt8):Nat):Int)<=(9223372036854775807:Int)
     have U:j.data.toList.length<=9223372036854775807:=by rw[←l]at g;simpa[zh]using g
     have:Lib.countByte j.data.toList ((Int.ofNat b).toNat.toUInt8)<=j.data.toList.length:=List.count_le_length;omega
   .cases h
  .cases hc
theorem zYU(J:HR E H w)(I:FrR E w fr a nt)(s:GR G E w)(hm:zAZ P G){v:AV}{H':Heap}{l:Nat}{o:Oper}{c:Go.Call}{C:XO}{call:Sy.Call}(p:zFR P G call)(ho:o.op=.call c)(hc:zBx P o.op=some C)
  (B:zFP E nx l) (h:xoS G call fr H nx C=some (v,H',l)):OpT P o a E H w nx v H' l:=by
 obtain⟨callee,args,ts⟩:=c;rw[ho]at hc;have y:∀{x:Operand}{ax:XV}{as:List XV}{f:Nat}{first k D:JE},callee=.value x->zL x=some ax->zES args.toList=some as->ax.ev G fr=some (.func (.func f) first k)->evs G fr as=some D →
   call f (first++D++k) H nx=some (v,H',l)->OpT P o a E H w nx v H' l:=by
  intro x ax as f first k D N Q e3 e4 e5 e6;subst N;obtain⟨O,_,c2⟩:=p _ _ _ _ _ _ _ e6;have q:=zM I s Q e4;generalize z:a.eval x=cx at q;cases q with
  |func _ _ _ Y vc V X rf rc=>
   have j:=zDT I s e3 e5;have h1:VRs E w first Y.toList:=⟨by simpa using V,λi x v hx q=>rf i x v hx (by simpa using q)⟩
   have h2:VRs E w k vc.toList:=⟨by simpa using X,λi x v hx q=>rc i x v hx (by simpa using q)⟩
   refine .vW (cargs:=Y++args.map a.eval++vc) J s B (by simpa using(h1.append j).append h2) c2 ?_
   simp only[execOp,ho,resolve,Sem.run_bind,z,Deferred.ofValue,Sem.run_pure,Result.andThen_ok,invoke];exact zKT O
 cases callee with
 |builtin b=>exact .vD (zO7 J I s ho hc B h)
 |value x=>
  have gen:∀{hx:∃ax,zL x=some ax/\∃as,zES args.toList=some as/\C=.qO ax as},OpT P o a E H w nx v H' l:=by
   rintro ⟨ax,A,as,has,e⟩
   rw[e]at h;simp only[xoS]at h;split at h
   .rename_i fv D U n;unfold zHq at h;split at h
    .exact y rfl A has U n h
    .cases h
   .cases h
  cases x with
  |func f=>
   simp only[zBx]at hc;split at hc
   .rename_i fn R;split at hc
    .obtain⟨as,has,hc⟩:=za hc;cases hc;simp only[xoS]at h;split at h
     .rename_i D n;exact y (x:=.func f) (ax:=.c (.func (.func f) [] [])) rfl rfl has rfl n (by simpa using h)
     .cases h
    .rename_i W;obtain⟨as,has,hc⟩:=za hc;exact .vD (zUV J I s ho R W has hc h)
   .cases hc
  |tmp t=>
   obtain⟨as,has,hc⟩:=za hc;cases hc;exact gen (hx:=⟨_,rfl,as,has,rfl⟩)
  |const aa=>
   obtain⟨ax,A,hc⟩:=za hc;obtain⟨as,has,hc⟩:=za hc;cases hc;exact gen (hx:=⟨ax,A,as,has,rfl⟩)
  |global g=>
   obtain⟨as,has,hc⟩:=za hc;cases hc;exact gen (hx:=⟨_,rfl,as,has,rfl⟩)
 |invoke r m=>
  obtain⟨ar,M,hc⟩:=za hc;obtain⟨as,has,hc⟩:=za hc;cases hc;simp only[xoS]at h;split at h
  .rename_i t u D K n;split at h
   .rename_i f T;obtain⟨O,_,c2⟩:=p _ _ _ _ _ _ _ h;have q:=zM I s M K;generalize z:a.eval r=cx at q;cases q with
    |iface _ _ F hu=>
     have j:=zDT I s has n;refine .vW (cargs:=#[F]++args.map a.eval) J s B (by simpa using VRs.cons hu j) c2 ?_
     have S:=hm t m f T F w;simp only[execOp,ho,resolve,Sem.run_bind,z,Sem.run_pure,Result.andThen_ok,invoke];have N:(#[Value.iface t F]++args.map a.eval)[0]?=some (.iface t F):=by
      simp[Array.getElem?_append]
     have Q:(#[Value.iface t F]++args.map a.eval).extract 1 (#[Value.iface t F]++args.map a.eval).size=args.map a.eval:=by
      apply Array.ext';simp[List.take_of_length_le]
     simp only[N,Q,callMethod,Sem.run_bind,run_program,Result.andThen_ok,S];exact zKT O
   .cases h
  .cases h
theorem zHC(l:HR E H w)(k:FrR E w fr a nt)(m:GR G E w)(hm:zAZ P G){v:AV}{H':Heap}{b:Nat}{o:Oper}{j:XO}{call:Sy.Call}(e:zFR P G call)(hc:zBx P o.op=some j)
  (g:zFP E nx b) (h:xoS G call fr H nx j=some (v,H',b)):OpT P o a E H w nx v H' b:=by
 by_cases f:∃c,o.op=.call c
 .obtain⟨c,n⟩:=f;exact zYU l k m hm e n hc g h
 .exact .vD (zWz l k m (λc h=>f ⟨c,h⟩) hc g h)
end
def zEV(call:Call):Prop:=∀f args H nx v c b,call f args H nx=some (v,c,b)->nx<=b
theorem zFR.le{P:Program}{G:Cx}{call:Call}(h:zFR P G call):zEV call:=λf args H nx v c b e=>(h f args H nx v c b e).2.1
theorem zXv{H:Heap}{nx:Nat}{s y:AV}{sz bytes:Nat}{v:AV}{H':Heap}{b:Nat}(h:zDB H nx s y sz bytes=some (v,H',b)):nx<=b:=by
 unfold zDB at h
 repeat' split at h
 all_goals first
  |(cases h;done)
  |(cases h;exact QB _)
  |(cases h;exact QV _)
theorem zat{H:Heap}{nx:Nat}{d y:AV}{sz:Nat}{v:AV}{H':Heap}{b:Nat}(h:zQz H nx d y sz=some (v,H',b)):nx<=b:=by
 unfold zQz at h
 repeat' split at h
 all_goals first
  |(cases h;done)
  |(cases h;exact QB _)
set_option maxHeartbeats 1000000 in
theorem zXw{G:Cx}{call:Call}{fr:Fr}{H:Heap}{nx:Nat}{o:XO}{v:AV}{H':Heap}{b:Nat}(hc:zEV call)(h:xoS G call fr H nx o=some (v,H',b)):nx<=b:=by
 cases o<;>simp only[xoS]at h
 all_goals (repeat' split at h)
 all_goals first
  |(cases h;done)
  |(cases h;exact QB _)
  |(cases h;exact QV _)
  |exact zXv h
  |exact zat h
  |exact hc _ _ _ _ _ _ _ h
  |(unfold zHq at h;split at h<;>first|exact hc _ _ _ _ _ _ _ h|(cases h;done))
theorem zWD{G:Cx}{call:Call}{fr:Fr}{H:Heap}{nx:Nat}{o:XO}{v:AV}{H':Heap}{b:Nat}(c:z8 o=1)(h:xoS G call fr H nx o=some (v,H',b)):H'=H/\b=nx:=by
 cases o<;>first|(cases c;done)|skip
 all_goals simp only[xoS]at h
 all_goals (repeat' split at h)
 all_goals first
  |(cases h;done)
  |(cases h;exact⟨rfl,rfl⟩)
theorem zSe{f:AV->AV->Bool}(c:∀a b,f a b=true->a=b):∀{x y:JE},zLB f x y=true->x=y
 |[],[],_=>rfl
 |a::x,b::y,h=>by
  simp only[zLB]at h;split at h
  .rename_i e;rw[c a b e,zSe c h]
  .cases h
 |[],_::_,h=>by simp[zLB]at h
 |_::_,[],h=>by simp[zLB]at h
theorem zTH:∀(d:Nat)(a b:AV),wG d a b=true->a=b:=by
 intro d
 induction d with
 |zero=>intro a b h;simp[wG]at h
 |succ d c=>
  intro a b h;have al:∀{x y:JE},zLB (wG d) x y=true->x=y:=zSe c;unfold wG at h;split at h
  case h_2=>
   split at h
   .rename_i e;have:=zHz e;have h:=eq_of_beq h;subst this;subst h;rfl
   .cases h
  case h_3=>rw[zAJ h]
  all_goals first
   |(cases h;done)
   |rfl
   |(simp only[QA,beq_iff_eq]at h)
   |skip
  .rw[h]
  .rw[zb h.1,zb h.2]
  .rw[c _ _ h.1,zb h.2]
  .rw[zb h.1,al h.2]
  .obtain⟨⟨⟨⟨⟨h1,h2⟩,h3⟩,h4⟩,g⟩,f⟩:=h;rw[zb h1,zb h2,zb h3,zb h4,zb g,f]
  .rw[zb h]
  .rw[zb h.1.1,al h.1.2,al h.2]
  .rw[zb h.1,c _ _ h.2]
  .rw[al h]
  .rw[al h]
  .rw[zb h]
structure uh(E:Env)(H:Heap)(w:World)(E':Env)(H':Heap)(w':World)(N:Nat->Prop):Prop where
 agree:∀h,E.D h->E'.ρ h=E.ρ h
 qy:∀h,E'.D h↔E.D h\/N h
 qJ:∀x,E.Z x->E'.Z x
 qS:∀x,E'.Z x->E.Z x\/(∃p∈H,E.ρ p.1=x)\/w.heap.size<=x
 own:∀p∈H',(∃q∈H,E.ρ q.1=E'.ρ p.1)\/w.heap.size<=E'.ρ p.1
 tape:w'.tape=w.tape
 os:w'.os=w.os
 output:w'.output=w.output
 size:w.heap.size<=w'.heap.size
 qM:∀x,x<w.heap.size->(∀p∈H,E.ρ p.1≠x)->w'.heap[x]? = w.heap[x]?
 qp:zAw w w'
 sig:E'.σ=E.σ:=by rfl
theorem uh.step{E:Env}{H:Heap}{w:World}{n:Env}{l:Heap}{j:World}{E2:Env}{H2:Heap}{r:World}{N m:Nat->Prop}{a b:Nat}
  (h:uh E H w n l j N) (k:Tr n l j E2 H2 r a b) (t:∀h,m h↔N h\/(a<=h/\h<b)):uh E H w E2 H2 r m where
 agree x hx:=(k.agree x ((h.qy x).2 (.inl hx))).trans (h.agree x hx)
 qy x:=by rw[k.qy,h.qy,t,or_assoc]
 qJ x hx:=k.qJ x (h.qJ x hx)
 qS x hx:=by
  rcases k.qS x hx with h1|⟨p,c,rfl⟩|h1
  .exact h.qS x h1
  .exact .inr (h.own p c)
  .exact .inr (.inr (Qh h.size h1))
 own p c:=by
  rcases k.own p c with⟨q,g,e⟩|h1
  .rw[←e];exact h.own q g
  .exact .inr (Qh h.size h1)
 tape:=k.tape.trans h.tape
 os:=k.os.trans h.os
 output:=k.output.trans h.output
 size:=Qh h.size k.size
 qM x hx c:=by
  rw[k.qM x (QW hx h.size) λp f e=>by
   rcases h.own p f with⟨q,g,s⟩|h1
   .exact c q g (s.trans e)
   .omega]
  exact h.qM x hx c
 qp:=h.qp.trans k.qp
 sig:=k.sig.trans h.sig
theorem uh.uk{E:Env}{H:Heap}{w:World}{E':Env}{H':Heap}{w':World}{a b:Nat}(h:Tr E H w E' H' w' a b){N:Nat->Prop}(c:∀h,N h↔(a<=h/\h<b)):uh E H w E' H' w' N:=
 ⟨h.agree,λx=>by rw[h.qy,c],h.qJ,h.qS,h.own,h.tape,h.os,h.output,h.size,h.qM,h.qp,h.sig⟩
theorem uh.uY{E:Env}{H:Heap}{w:World}{E':Env}{H':Heap}{w':World}{a b:Nat}{N:Nat->Prop}(h:uh E H w E' H' w' N)(c:a<=b)(e:∀h,N h↔(a<=h/\h<b)):Tr E H w E' H' w' a b:=
 ⟨c,h.agree,λx=>by rw[h.qy,e],h.qJ,h.qS,h.own,h.tape,h.os,h.output,h.size,h.qM,h.qp,h.sig⟩
theorem uh.vr{E:Env}{H:Heap}{w:World}{E':Env}{H':Heap}{w':World}{N:Nat->Prop}(c:HR E H w)(h:uh E H w E' H' w' N){v:AV}{cv:Value}(g:VR E w v cv):VR E' w' v cv:=
 g.mono (λx b=>⟨(h.qy x).2 (.inl b),h.agree x b⟩)
  (λx b=>⟨h.qJ x b,h.qM x (c.wi x b) λp f e=>c.nz p f (e▸b)⟩) h.qp h.sig
section
theorem zC5{f g:Nat->Bool}:∀{al:List (Nat×Nat×HO)},(∀x∈al,f x.1=g x.1)->within f al=within g al
 |[],_=>rfl
 |(i,h,o)::r,b=>by
  have h1:f i=g i:=b _ (.head _);simp only[within,h1,zC5 λx c=>b x (.tail _ c)]
theorem zEW{f:Nat->Bool}:∀{a b:List (Nat×Nat×HO)},within f (a++b)=within f a++within f b
 |[],_=>rfl
 |(i,h,o)::r,b=>by
  simp only[List.cons_append,within];split
  .rw[zEW];rfl
  .rw[zEW]
theorem zDU{f:Nat->Bool}:∀{al:List (Nat×Nat×HO)},(∀x∈al,f x.1=false)->within f al=[]
 |[],_=>rfl
 |(i,h,o)::r,b=>by
  have h1:f i=false:=b _ (.head _);simp only[within,h1];exact zDU λx c=>b x (.tail _ c)
theorem zKU{f g:Nat->Bool}:∀{al:List (Nat×Nat×HO)},(∀x∈al,g x.1=true->f x.1=true)->(within f al).Perm (within g al++within (λi=>f i&&!g i) al)
 |[],_=>.refl _
 |(i,h,o)::r,c=>by
  have b:=zKU λx e=>c x (.tail _ e)
  have h1:g i=true->f i=true:=c _ (.head _);simp only[within];cases hf:f i<;>cases hg:g i
  .simpa using b
  .exact absurd (h1 hg) (by simp[hf])
  .simpa using(b.cons (h,o)).trans List.perm_middle.symm
  .simpa using b.cons (h,o)
theorem zIm{mask:Nat}:∀{al:List (Nat×Nat×HO)}{j:Nat},(zBv mask al).testBit j=true↔mask.testBit j=true/\∃x∈al,x.1=j
 |[],j=>by simp[zBv]
 |(i,h,o)::r,j=>by
  simp only[zBv];have b:=zIm (mask:=mask) (al:=r) (j:=j);split
  .rename_i hi;rw[Nat.testBit_or,Bool.or_eq_true,Nat.testBit_two_pow,b];simp only[decide_eq_true_eq,QJ,exists_eq_or_imp]
   constructor
   .rintro (h|⟨h1,h2⟩)
    .subst h;exact⟨hi,.inl rfl⟩
    .exact⟨h1,.inr h2⟩
   .rintro ⟨h1,h|h⟩
    .exact .inl h
    .exact .inr ⟨h1,h⟩
  .rename_i hi;rw[b];simp only[QJ,exists_eq_or_imp]
   constructor
   .rintro ⟨h1,h2⟩;exact⟨h1,.inr h2⟩
   .rintro ⟨h1,h|h⟩
    .exact absurd h1 (by rw[←h];simp[hi])
    .exact⟨h1,h⟩
theorem zRf:∀{ts:JV}{fr:Fr}{t:Nat}{v:AV},(only ts fr).get t=some v->t∈ts/\fr.get t=some v
 |[],_,_,_,h=>by simp[only,Fr.get]at h
 |c::ts,fr,t,v,h=>by
  simp only[only]at h;split at h
  .rename_i u hu;simp only[Fr.get]at h;split at h
   .rename_i e;cases h;rw[←zb e];exact⟨.head _,hu⟩
   .exact let ⟨a,b⟩:=zRf h;⟨.tail _ a,b⟩
  .exact let ⟨a,b⟩:=zRf h;⟨.tail _ a,b⟩
theorem Fr.qu:∀(fr:Fr)(n:Nat)(v:AV)(t:Nat),(fr.put n v).get t=if n=t then some v else fr.get t
 |[],n,v,t=>by
  simp only[Fr.put,Fr.get];split
  .rename_i e;simp[zb e]
  .rename_i e;simp[zAU e]
 |(k,u)::r,n,v,t=>by
  simp only[Fr.put];split
  .rename_i e;have e:=zb e;subst e;simp only[Fr.get];split
   .rename_i e;simp[zb e]
   .rename_i e;simp[zAU e]
  .rename_i e;simp only[Fr.get,Fr.qu r n v t];split
   .rename_i b;have:=zAU e;have b:=zb b;subst b;rw[if_neg (λh=>this h.symm)]
   .rfl
def scan(L:Nat->Bool)(fr0:Fr)(t:Nat):List (Nat×Option Nat×AV)->JF
 |[]=>fr0.get t
 |(i,d,v)::r=>match L i,d with
  |true,some d=>if d=t then some v else scan L fr0 t r
  |_,_=>scan L fr0 t r
theorem zLQ{L:Nat->Bool}{fr0:Fr}{t:Nat}{r:List (Nat×Option Nat×AV)}:∀{nw:List (Nat×Option Nat×AV)},(∀x∈nw,L x.1=true->x.2.1≠some t)->scan L fr0 t (nw++r)=scan L fr0 t r
 |[],_=>rfl
 |(i,d,v)::nw,h=>by
  have b:=zLQ (r:=r) (fr0:=fr0) λx f=>h x (.tail _ f)
  have h1:L i=true->d≠some t:=h _ (.head _);simp only[List.cons_append,scan];split
  .rename_i g c;rw[if_neg λe=>h1 c (by rw[e]),b]
  .exact b
theorem zKh{L L':Nat->Bool}{fr0:Fr}{t:Nat}:∀{r:List (Nat×Option Nat×AV)},(∀x∈r,x.2.1=some t->L x.1=L' x.1)->scan L fr0 t r=scan L' fr0 t r
 |[],_=>rfl
 |(i,d,v)::r,h=>by
  have b:=zKh (fr0:=fr0) λx c=>h x (.tail _ c)
  have h1:d=some t->L i=L' i:=h _ (.head _);simp only[scan];cases d with
  |none=>simpa using b
  |some d=>
   by_cases e:d=t
   .subst e;rw[h1 rfl,b]
   .cases L i<;>cases L' i<;>simp[e,b]
def cur(L:Nat->Bool):JN->List (Heap×Nat)->Option (Heap×Nat)
 |[],x::_=>some x
 |(c,_)::ch,x::ms=>match L c with
  |true=>some x
  |false=>cur L ch ms
 |_,[]=>none
theorem zO9{L L':Nat->Bool}:∀{ch:JN}{ms:List (Heap×Nat)},(∀c∈ch,L c.1=L' c.1)->cur L ch ms=cur L' ch ms
 |[],[],_=>rfl
 |[],_::_,_=>rfl
 |(c,p)::ch,[],_=>rfl
 |(c,p)::ch,x::ms,h=>by
  have h1:L c=L' c:=h _ (.head _);simp only[cur,h1,zO9 λx b=>h x (.tail _ b)]
theorem zNu{L:Nat->Bool}{ch:JN}{ms:List (Heap×Nat)}:∀{e:JN}{nm:List (Heap×Nat)},nm.length=e.length->(∀c∈e,L c.1=false)->cur L (e++ch) (nm++ms)=cur L ch ms
 |[],[],_,_=>rfl
 |(c,p)::e,x::nm,b,h=>by
  have h1:L c=false:=h _ (.head _);simp only[List.cons_append,cur,h1];exact zNu (by simpa using b) λx f=>h x (.tail _ f)
 |[],_::_,b,_=>by simp at b
 |_::_,[],b,_=>by simp at b
theorem zUW{L:Nat->Bool}{ch:JN}{x:Heap×Nat}{ms:List (Heap×Nat)}(h:∀c∈ch,L c.1=true):cur L ch (x::ms)=some x:=by
 cases ch with
 |nil=>rfl
 |cons c ch=>
  have h1:L c.1=true:=h _ (.head _);obtain⟨c,p⟩:=c;simp only[cur,h1]
inductive DStep(G:Cx)(call:Call)(i:Nat)(o:XOper)(d:XD)(s:DS):DS->Prop where
 |skip:zB7 (only d.looks s.fr) o.guard=some false->DStep G call i o d s { s with fr:=qv s.fr o.dst (.qd []),tr:=(i,o.dst,.qd [])::s.tr }
 |pure (v:AV):zB7 (only d.looks s.fr) o.guard=some true->xo G zf (only d.looks s.fr) [] s.nx o.op=some (v,[],s.nx) →
   DStep G call i o d s { s with fr:=qv s.fr o.dst v,tr:=(i,o.dst,v)::s.tr }
 |read (v:AV):zB7 (only d.looks s.fr) o.guard=some true->z8 o.op=1 →
   DStep G call i o d s { s with fr:=qv s.fr o.dst v,rd:=⟨i,o.op,only d.looks s.fr,d.qg,v⟩::s.rd,tr:=(i,o.dst,v)::s.tr }
 |alloc (v:AV) (ob:HO):zB7 (only d.looks s.fr) o.guard=some true->xo G zf (only d.looks s.fr) [] s.nx o.op=some (v,[(s.nx,ob)],s.nx+1) →
   DStep G call i o d s { s with fr:=qv s.fr o.dst v,nx:=s.nx+1,al:=(i,s.nx,ob)::s.al,tr:=(i,o.dst,v)::s.tr }
 |chain (v:AV) (m:Heap) (inc:Nat) (ms:List (Heap×Nat)) (m':Heap) (n:Nat):zB7 (only d.looks s.fr) o.guard=some true->s.ms=(m,inc)::ms →
   (∀c∈s.ch,d.qg.testBit c.1=true)->xo G call (only d.looks s.fr) (within (but d.qg inc) s.al++m) s.nx o.op=some (v,m',n) →
   DStep G call i o d s { s with fr:=qv s.fr o.dst v,nx:=n,ms:=(m',inc ||| zBv d.qg s.al)::s.ms,ch:=(i,d.qg)::s.ch,tr:=(i,o.dst,v)::s.tr }
theorem zWf{G:Cx}{call:Call}{i:Nat}{o:XOper}{d:XD}{s k:DS}(h:zC4 G call i o d s=some k):DStep G call i o d s k:=by
 unfold zC4 at h;simp only at h;split at h
 .rename_i e;cases h;exact .skip e
 .rename_i e;split at h
  .split at h
   .rename_i v n b;split at h
    .rename_i f;cases h;rw[zb f]at b;exact .pure v e b
    .cases h
   .cases h
  .rename_i p;split at h
   .split at h
    .cases h;exact .read _ e p
    .cases h
   .cases h
  .split at h
   .rename_i v u q n b;split at h
    .rename_i f;split at h
     .rename_i g;cases h;rw[zb f,zb g]at b;rw[zb f,zb g];exact .alloc v q e b
     .cases h
    .cases h
   .rename_i v n b;split at h
    .rename_i f;cases h;rw[zb f]at b;exact .pure v e b
    .cases h
   .cases h
  .split at h
   .rename_i m inc l j;split at h
    .rename_i hc;split at h
     .rename_i v r n b;cases h;exact .chain v m inc l r n e j (λc t=>QH.1 hc c t) b
     .cases h
    .cases h
   .cases h
 .cases h
theorem zMU{G:Cx}{call:Call}:∀{ops:List XOper}{ds:List XD}{i:Nat}{s b:DS},zBw G call i ops ds s=some b →
  ∃st:Nat->DS,st 0=s/\st ops.length=b/\∀j o,ops[j]?=some o->∃d,ds[j]?=some d/\DStep G call (i+j) o d (st j) (st (j+1))
 |[],ds,i,s,b,h=>by
  simp only[zBw]at h;cases h;exact⟨λ_=>s,rfl,rfl,λj o c=>by simp at c⟩
 |o::r,[],i,s,b,h=>by simp[zBw]at h
 |o::r,d::ds,i,s,b,h=>by
  simp only[zBw]at h;split at h
  .rename_i s1 h1;obtain⟨st,e,l,f⟩:=zMU h;refine⟨λ|0=>s|j+1=>st j,rfl,by simpa using l,λj k c=>?_⟩
   cases j with
   |zero=>
    simp at c;subst c;exact⟨d,rfl,by show DStep G call (i+0) o d s (st 0);rw[e];exact zWf h1⟩
   |succ j=>
    obtain⟨g,h2,h3⟩:=f j k (by simpa using c)
    exact⟨g,by simpa using h2,by rw[show i+(j+1)=i+1+j by omega];exact h3⟩
  .cases h
structure Later(s s':DS)(lo:Nat):Prop where
 ch:∃nc nm,s'.ch=nc++s.ch/\s'.ms=nm++s.ms/\nm.length=nc.length/\∀c∈nc,lo<=c.1/\∀c0∈s.ch,c.2.testBit c0.1=true
 al:∃na,s'.al=na++s.al/\∀x∈na,lo<=x.1
 tr:∃nt,s'.tr=nt++s.tr/\∀x∈nt,lo<=x.1
 rd:∀r∈s.rd,r∈s'.rd
 nx:s.nx<=s'.nx
theorem Later.refl(s:DS)(lo:Nat):Later s s lo:=
 ⟨⟨[],[],rfl,rfl,rfl,λc h=>by simp at h⟩,⟨[],rfl,λc h=>by simp at h⟩,⟨[],rfl,λc h=>by simp at h⟩,λ_ h=>h,QB _⟩
theorem Later.trans{a b c:DS}{lo f:Nat}(h:Later a b lo)(k:Later b c f)(j:lo<=f):Later a c lo:=by
 obtain⟨J,nm,h1,h2,h3,h4⟩:=h.ch;obtain⟨g,n,q,I,v,p⟩:=k.ch;obtain⟨B,z,F⟩:=h.al;obtain⟨m,A,D⟩:=k.al;obtain⟨nt,y,h8⟩:=h.tr;obtain⟨l,u,t⟩:=k.tr;refine⟨⟨g++J,n++nm,by rw[q,h1,QP],by rw[I,h2,QP],by simp[h3,v],λc hc=>?_⟩,
  ⟨m++B,by rw[A,z,QP],λx e=>?_⟩,⟨l++nt,by rw[u,y,QP],λx e=>?_⟩,λr C=>k.rd r (h.rd r C),Qh h.nx k.nx⟩
 .rcases QI.1 hc with hc|hc
  .exact⟨Qh j (p c hc).1,λc0 s=>(p c hc).2 c0 (h1▸Qs _ s)⟩
  .exact h4 c hc
 .rcases QI.1 e with e|e
  .exact Qh j (D x e)
  .exact F x e
 .rcases QI.1 e with e|e
  .exact Qh j (t x e)
  .exact h8 x e
structure Low(s:DS)(i:Nat):Prop where
 ch:∀c∈s.ch,c.1<i
 al:∀c∈s.al,c.1<i
 tr:∀c∈s.tr,c.1<i
theorem DStep.ext{G:Cx}{call:Call}{i:Nat}{o:XOper}{d:XD}{s g:DS}(hc:zEV call)(h:DStep G call i o d s g):Later s g i:=by
 have one:∀(v:AV),∃nt,(i,o.dst,v)::s.tr=nt++s.tr/\∀x∈nt,i<=x.1:=λv=>⟨[(i,o.dst,v)],rfl,λx b=>by simp at b;subst b;exact QB _⟩
 have e:=Later.refl s i;cases h with
 |skip _=>exact{ e with tr:=one _ }
 |pure v _ _=>exact{ e with tr:=one _ }
 |read v _ _=>exact{ e with tr:=one _,rd:=λr l=>.tail _ l }
 |alloc v q _ _=>exact{ e with tr:=one _,al:=⟨[_],rfl,λx b=>by simp at b;subst b;exact QB _⟩,nx:=QV _ }
 |chain v m inc p t n _ k f b=>
  exact{ e with tr:=one _,ch:=⟨[_],[_],rfl,rfl,rfl,λc j=>by simp at j;subst j;exact⟨QB _,f⟩⟩,nx:=zXw hc (zIj.symm.trans b) }
theorem DStep.low{G:Cx}{call:Call}{i:Nat}{o:XOper}{d:XD}{s b:DS}(h:DStep G call i o d s b)(l:Low s i):Low b (i+1):=by
 have up:Low s (i+1):=⟨λc h=>Nat.lt_succ_of_lt (l.ch c h),λc h=>Nat.lt_succ_of_lt (l.al c h),λc h=>Nat.lt_succ_of_lt (l.tr c h)⟩
 have one:∀(v:AV),∀c∈(i,o.dst,v)::s.tr,c.1<i+1:=λv c hc=>by
  rcases QJ.1 hc with hc|hc
  .subst hc;exact QS _
  .exact up.tr c hc
 cases h with
 |skip _=>exact{ up with tr:=one _ }
 |pure v _ _=>exact{ up with tr:=one _ }
 |read v _ _=>exact{ up with tr:=one _ }
 |alloc v j _ _=>
  refine{ up with tr:=one _,al:=λc hc=>?_ }
  rcases QJ.1 hc with hc|hc
  .subst hc;exact QS _
  .exact up.al c hc
 |chain v m inc g k n _ e f p=>
  refine{ up with tr:=one _,ch:=λc hc=>?_ }
  rcases QJ.1 hc with hc|hc
  .subst hc;exact QS _
  .exact up.ch c hc
theorem DStep.word{G:Cx}{call:Call}{i:Nat}{o:XOper}{d:XD}{s b:DS}(h:DStep G call i o d s b):∃v,b.tr=(i,o.dst,v)::s.tr/\b.fr=qv s.fr o.dst v:=by
 cases h<;>exact⟨_,rfl,rfl⟩
end
theorem zBJ{P:Program}{ops:Array Oper}{o:Oper}:(zu P ops o).dst=o.dst:=by
 unfold zu;split
 .rfl
 .split<;>rfl
theorem zOr{P:Program}{ops:Array Oper}{o:Oper}(h:o.guard=none):zu P ops o=⟨o.dst,(zBx P o.op).getD .bad,none⟩:=by
 simp[zu,h]
theorem zOs{P:Program}{ops:Array Oper}{o:Oper}{j s:Nat}{b:Bool}(h:o.guard=some (j,b))(c:(ops[j]?).bind (·.dst)=some s):zu P ops o=⟨o.dst,(zBx P o.op).getD .bad,some (s,b)⟩:=by
 simp[zu,h,c]
theorem zOt{P:Program}{ops:Array Oper}{o:Oper}{j:Nat}{b:Bool}(h:o.guard=some (j,b))(c:(ops[j]?).bind (·.dst)=none):zu P ops o=⟨o.dst,.bad,none⟩:=by
 simp[zu,h,c]
theorem zFa{P:Program}{ops:Array Oper}{o:Oper}(h:(zu P ops o).op≠.bad):zBx P o.op=some (zu P ops o).op:=by
 have key:((zBx P o.op).getD .bad)≠.bad->zBx P o.op=some ((zBx P o.op).getD .bad):=λh=>by
  cases hc:zBx P o.op with
  |none=>simp[hc]at h
  |some y=>rfl
 cases hg:o.guard with
 |none=>rw[zOr hg]at *;exact key h
 |some c=>
  obtain⟨j,b⟩:=c;cases hs:(ops[j]?).bind (·.dst)with
  |none=>rw[zOt hg hs]at h;exact absurd rfl h
  |some s=>rw[zOs hg hs]at *;exact key h
theorem zCn{P:Program}{ops:Array Oper}{o:Oper}{E:Env}{w:World}{fr:Fr}{a:Act}{nt:Nat}{b:Bool}(k:FrR E w fr a nt)(h:zB7 fr (zu P ops o).guard=some b)
  (hb:b=false\/(zu P ops o).op≠.bad):Region.wanted o (yielded ops a.tmps)=b:=by
 cases hg:o.guard with
 |none=>
  rw[zOr hg]at h;simp only[zB7,QK]at h;subst h;simp[Region.wanted,hg]
 |some n=>
  obtain⟨j,f⟩:=n;cases hs:(ops[j]?).bind (·.dst)with
  |some s=>
   rw[zOs hg hs]at h;simp only[zB7]at h;split at h
   .rename_i c hc;have h1:=(k.get s _ hc).of_bool;have h2:a.tmps[s]?=some (.bool c):=by
     rw[Array.getD_eq_getD_getElem?]at h1;cases e:a.tmps[s]? with
     |none=>rw[e]at h1;simp[undef]at h1
     |some u=>rw[e]at h1;simpa using h1
    have h3:yielded ops a.tmps j=some c:=by simp[yielded,hs,h2]
    simp only[Region.wanted,hg,h3];simp only[QK]at h;rw[←h];cases c<;>cases f<;>rfl
   .rename_i hc;cases h;have h1:a.tmps.getD s undef=.tuple #[]:=by
     obtain⟨g,m,l⟩:=(k.get s _ hc).va;have:g=#[]:=by
      have:=l.of_nil;cases g;simp_all
     rw[m,this]
    have h3:yielded ops a.tmps j=none:=by
     simp only[yielded,hs,Option.bind_some];rw[Array.getD_eq_getD_getElem?]at h1;cases e:a.tmps[s]? with
     |none=>rfl
     |some u=>rw[e]at h1;simp at h1;subst h1;rfl
    simp[Region.wanted,hg,h3]
   .cases h
  |none=>
   rw[zOt hg hs]at h hb;simp only[zB7,QK]at h;subst h;simp at hb
structure DRun(P:Program)(G:Cx)(call:Call)(ops:Array Oper)(ds:List XD)(st:Nat->DS)(H0:Heap)(fr0:Fr)(nx0 nt:Nat):Prop where
 step:∀(j:Nat)(o:Oper),ops[j]?=some o->∃d,ds[j]?=some d/\DStep G call j (zu P ops o) d (st j) (st (j+1))
 init:st 0=⟨fr0,nx0,[(H0,0)],[],[],[],[]⟩
 apart:∀(j k:Nat)(oj ok:Oper)(dj dk:XD),j<k->ops[j]?=some oj->ops[k]?=some ok->ds[j]?=some dj->ds[k]?=some dk->dk.qg.testBit j=true\/zIk oj.dst dj ok.dst dk=true
 low:∀(j:Nat)(d:XD)(k:Nat),ds[j]?=some d->d.qg.testBit k=true->k<j
 dst:∀(j:Nat)(o:Oper)(d:Nat),ops[j]?=some o->o.dst=some d->d<nt
 reads:∀r∈(st ops.size).rd,zCs G (st ops.size).al (st ops.size).nx r (st ops.size).ch (st ops.size).ms=true
namespace DRun
variable{P:Program}{G:Cx}{call:Call}{ops:Array Oper}{ds:List XD}{st:Nat->DS}{H0:Heap}{fr0:Fr}{nx0 nt:Nat}
theorem get(_:DRun P G call ops ds st H0 fr0 nx0 nt){j:Nat}(h:j<ops.size):∃o,ops[j]?=some o:=⟨ops[j],Qf h⟩
theorem lows(R:DRun P G call ops ds st H0 fr0 nx0 nt):∀j,j<=ops.size->Low (st j) j
 |0,_=>by rw[R.init];exact⟨λc h=>by simp at h,λc h=>by simp at h,λc h=>by simp at h⟩
 |j+1,b=>by
  obtain⟨o,e⟩:=R.get (j:=j) b;obtain⟨d,_,f⟩:=R.step j o e;exact f.low (R.lows j (Qe b))
theorem later(hc:zEV call)(R:DRun P G call ops ds st H0 fr0 nx0 nt)(i:Nat):∀k,i+k<=ops.size->Later (st i) (st (i+k)) i
 |0,_=>.refl _ _
 |k+1,b=>by
  obtain⟨o,c⟩:=R.get (j:=i+k) b;obtain⟨d,_,e⟩:=R.step _ o c;exact(R.later hc i k (Qe b)).trans (e.ext hc) (Qq _ _)
theorem last(hc:zEV call)(R:DRun P G call ops ds st H0 fr0 nx0 nt){i:Nat}(hi:i<=ops.size):Later (st i) (st ops.size) i:=by
 have:=R.later hc i (ops.size-i) (by omega)
 rwa [show i+(ops.size-i)=ops.size by omega]at this
theorem mono(hc:zEV call)(R:DRun P G call ops ds st H0 fr0 nx0 nt){i j:Nat}(b:i<=j)(c:j<=ops.size):(st i).nx<=(st j).nx:=by
 have:=(R.later hc i (j-i) (by omega)).nx
 rwa [show i+(j-i)=j by omega]at this
theorem words(R:DRun P G call ops ds st H0 fr0 nx0 nt):∀j,j<=ops.size->∀x∈(st j).tr,∃o,ops[x.1]?=some o/\x.2.1=o.dst
 |0,_=>by rw[R.init];intro x h;simp at h
 |j+1,f=>by
  obtain⟨o,c⟩:=R.get (j:=j) f;obtain⟨d,_,g⟩:=R.step j o c;obtain⟨v,e,_⟩:=g.word;intro x b;rw[e]at b;rcases QJ.1 b with b|b
  .subst b;exact⟨o,c,zBJ⟩
  .exact R.words j (Qe f) x b
theorem frames(R:DRun P G call ops ds st H0 fr0 nx0 nt)(t:Nat):∀j,j<=ops.size->scan (λ_=>true) fr0 t (st j).tr=(st j).fr.get t
 |0,_=>by rw[R.init];rfl
 |j+1,b=>by
  obtain⟨o,f⟩:=R.get (j:=j) b;obtain⟨d,_,g⟩:=R.step j o f;obtain⟨v,e,h⟩:=g.word;rw[e,h];have c:=R.frames t j (Qe b);cases hd:(zu P ops o).dst with
  |none=>simpa[scan,qv]using c
  |some s=>simp only[scan,qv,Fr.qu,c]
theorem chains(R:DRun P G call ops ds st H0 fr0 nx0 nt):∀j,j<=ops.size->∀c∈(st j).ch,∃d,ds[c.1]?=some d/\c.2=d.qg
 |0,_=>by rw[R.init];intro x h;simp at h
 |j+1,g=>by
  obtain⟨o,l⟩:=R.get (j:=j) g;obtain⟨d,hd,b⟩:=R.step j o l;have e:=R.chains j (Qe g);generalize k:st (j+1)=q at b;generalize f:st j=s at b e;cases b with
  |chain v m inc p r n _ _ _ _=>
   intro c hc;rcases QJ.1 hc with hc|hc
   .subst hc;exact⟨d,hd,rfl⟩
   .exact e c hc
  |_=>exact e
structure Inv(dl:List Deferred)(st:Nat->DS)(n:Nat)(E0:Env)(H0:Heap)(w0:World)(fr0:Fr)(nt:Nat)(L:Nat->Bool)(E:Env)(w:World)(a:Act):Prop where
 size:a.tmps.size=nt
 defers:a.defers=dl
 fr:∀t v,scan L fr0 t (st n).tr=some v->VR E w v (a.tmps.getD t undef)
 heap:∃m inc,cur L (st n).ch (st n).ms=some (m,inc)/\(∀j,inc.testBit j=true->L j=true)/\HR E (within (λj=>L j&&!inc.testBit j) (st n).al++m) w ∧
  uh E0 H0 w0 E (within (λj=>L j&&!inc.testBit j) (st n).al++m) w λh=>∃j,j<n/\L j=true/\(st j).nx<=h/\h<(st (j+1)).nx
theorem zRg{n:Nat}:∀{l:List Nat},zDs n l=true↔n∈l
 |[]=>by simp[zDs]
 |a::r=>by
  simp only[zDs];split
  .rename_i h;simp[zb h]
  .rename_i h;have:=zAU h;rw[zRg];simp[this]
theorem zMw{x y:Option Nat}{f c:XD}(h:zIk x f y c=true):(∀d,x=some d->d ∉ c.looks)/\(∀d,y=some d->d ∉ f.looks)/\(∀d,x=some d->y≠some d):=by
 simp only[zIk,QA]at h;obtain⟨⟨h1,h2⟩,h3⟩:=h;refine⟨λd e b=>?_,λd e b=>?_,λd e g=>?_⟩
 .subst e;simp[zRg.2 b]at h1
 .subst e;simp[zRg.2 b]at h2
 .subst e;subst g;simp at h3
section
variable{dl:List Deferred}{E0 E:Env}{w0 w:World}{a:Act}{L L':Nat->Bool}{i:Nat}{o:Oper}{d:XD}
theorem looked(hc:zEV call)(R:DRun P G call ops ds st H0 fr0 nx0 nt)(ho:ops[i]?=some o)(hd:ds[i]?=some d)(p:L i=false)
  (n:∀(k:Nat)(q:XD),L k=true->ds[k]?=some q->∀j,q.qg.testBit j=true->L j=true) (f:∀j,d.qg.testBit j=true->L j=true)
  (e:Inv dl st ops.size E0 H0 w0 fr0 nt L E w a):FrR E w (only d.looks (st i).fr) a nt:=by
 have hi:i<ops.size:=(Array.getElem?_eq_some_iff.1 ho).1;refine⟨e.size,λt v s=>?_⟩
 obtain⟨m1,m2⟩:=zRf s;apply e.fr;rw[←m2,←R.frames t i (Qe hi)];obtain⟨A,r,u⟩:=(R.last hc (Qe hi)).tr;rw[r,zLQ]
 .apply zKh;intro x g c;obtain⟨z,h1,h2⟩:=R.words i (Qe hi) x g;have b:=(R.lows i (Qe hi)).tr x g;obtain⟨y,h3,_⟩:=R.step _ _ h1;rcases R.apart _ _ _ _ _ _ b h1 ho h3 hd with h4|h4
  .exact f _ h4
  .exact absurd m1 ((zMw h4).1 t (by rw[←h2];exact c))
 .intro x g m c;obtain⟨z,h1,h2⟩:=R.words ops.size (QB _) x (r▸Qw _ g)
  have l:=u x g;have b:i<x.1:=by
   rcases Nat.eq_or_lt_of_le l with h|h
   .rw[←h,p]at m;cases m
   .exact h
  obtain⟨y,h3,_⟩:=R.step _ _ h1;rcases R.apart _ _ _ _ _ _ b ho h1 hd h3 with h4|h4
  .have:=n _ _ m h3 _ h4;rw[p]at this;cases this
  .exact(zMw h4).2.1 t (by rw[←h2];exact c) m1
theorem behind(hc:zEV call)(R:DRun P G call ops ds st H0 fr0 nx0 nt)(ho:ops[i]?=some o)(hd:ds[i]?=some d)(z:L i=false)(c:∀j,L' j=(L j||j==i))
  (q:∀(k:Nat)(r:XD),L k=true->ds[k]?=some r->∀j,r.qg.testBit j=true->L j=true)
  (h:Inv dl st ops.size E0 H0 w0 fr0 nt L E w a) {E':Env} {w':World} {v:AV} {cv:Value} (B:(st (i+1)).tr=(i,(zu P ops o).dst,v)::(st i).tr)
  (g:∀{v cv},VR E w v cv->VR E' w' v cv) (D:VR E' w' v cv):∀t u,scan L' fr0 t (st ops.size).tr=some u->VR E' w' u ((a.put o.dst cv).tmps.getD t undef):=by
 have hi:i<ops.size:=(Array.getElem?_eq_some_iff.1 ho).1;intro t u hu;by_cases b:o.dst=some t
 .obtain⟨I,s,A⟩:=(R.last hc (i:=i+1) hi).tr;rw[s,zLQ,B]at hu
  .have h1:L' i=true:=by simp[c]
   rw[zBJ,b]at hu;simp only[scan,h1,if_true,QK]at hu;subst hu;have p:t<a.tmps.size:=by rw[h.size];exact R.dst i o t ho b
   simpa[Act.put,b,Array.getElem?_setIfInBounds,p]using D
  .intro x m l f;have y:=A x m;have l:L x.1=true:=by
    rw[c]at l;have:(x.1==i)=false:=by simp;omega
    simpa[this]using l
   obtain⟨F,h1,h2⟩:=R.words ops.size (QB _) x (s▸Qw _ m)
   obtain⟨J,h3,_⟩:=R.step _ _ h1;rcases R.apart i x.1 _ _ _ _ (by omega) ho h1 hd h3 with h4|h4
   .have:=q _ _ l h3 _ h4;rw[z]at this;cases this
   .exact(zMw h4).2.2 t b (by rw[←h2];exact f)
 .rw[zKh (L':=L)]at hu
  .have h1:=g (h.fr t u hu);have h2:(a.put o.dst cv).tmps.getD t undef=a.tmps.getD t undef:=by
    unfold Act.put;split
    .rename_i C n;have:C≠t:=λe=>b (by rw[n,e])
     simp[Array.getElem?_setIfInBounds_ne this]
    .rfl
   rw[h2];exact h1
  .intro x m f;obtain⟨F,h1,h2⟩:=R.words ops.size (QB _) x m;rw[c];have:x.1≠i:=λe=>by
    rw[e,ho]at h1;cases h1;exact b (by rw[←h2];exact f)
   simp[this]
theorem zbE(hc:zEV call)(R:DRun P G call ops ds st H0 fr0 nx0 nt)(hi:i<ops.size)(h:(st (i+1)).al=(st i).al):∀x∈(st ops.size).al,x.1≠i:=by
 obtain⟨f,c,e⟩:=(R.last hc (i:=i+1) hi).al;intro x b;rw[c,h]at b;rcases QI.1 b with b|b
 .have:=e x b;omega
 .have:=(R.lows i (Qe hi)).al x b;omega
theorem zbF(hc:zEV call)(R:DRun P G call ops ds st H0 fr0 nx0 nt)(hi:i<ops.size)(h:(st (i+1)).ch=(st i).ch):∀x∈(st ops.size).ch,x.1≠i:=by
 obtain⟨f,nm,c,_,_,e⟩:=(R.last hc (i:=i+1) hi).ch;intro x b;rw[c,h]at b;rcases QI.1 b with b|b
 .have:=(e x b).1;omega
 .have:=(R.lows i (Qe hi)).ch x b;omega
theorem zau(hc:zEV call)(R:DRun P G call ops ds st H0 fr0 nx0 nt)(hi:i<ops.size)(f:L i=false)(b:zFP E0 nx0 (st ops.size).nx){H:Heap}
  (g:uh E0 H0 w0 E H w λh=>∃j,j<ops.size/\L j=true/\(st j).nx<=h/\h<(st (j+1)).nx):zFP E (st i).nx (st (i+1)).nx:=by
 intro h h1 h2 k;rcases(g.qy h).1 k with h3|⟨j,e,c,h4,m⟩
 .have l:(st 0).nx=nx0:=by rw[R.init]
  have:=R.mono hc (QN i) (Qe hi);have:=R.mono hc (i:=i+1) hi (QB _);exact b h (by omega) (by omega) h3
 .rcases Nat.lt_trichotomy i j with h|h|h
  .have:=R.mono hc (i:=i+1) (j:=j) h (Qe e);omega
  .subst h;rw[f]at c;cases c
  .have:=R.mono hc (i:=j+1) (j:=i) h (Qe hi);omega
theorem zch(hi:i<ops.size)(b:∀j,L' j=(L j||j==i))(h:Nat):
  (∃j,j<ops.size/\L' j=true/\(st j).nx<=h/\h<(st (j+1)).nx)↔(∃j,j<ops.size/\L j=true/\(st j).nx<=h/\h<(st (j+1)).nx)\/((st i).nx<=h/\h<(st (i+1)).nx):=by
 constructor
 .rintro ⟨j,h1,h2,h3⟩
  rw[b,Bool.or_eq_true,beq_iff_eq]at h2;rcases h2 with h2|h2
  .exact .inl ⟨j,h1,h2,h3⟩
  .subst h2;exact .inr h3
 .rintro (⟨j,h1,h2,h3⟩|h3)
  .exact⟨j,h1,by rw[b,h2];rfl,h3⟩
  .exact⟨i,hi,by simp[b],h3⟩
theorem zSf{r:DRead}{al:List (Nat×Nat×HO)}{nx:Nat}(hi:L r.i=false)(e:∀j,r.qg.testBit j=true->L j=true):
  ∀{ch:List (Nat×Nat)}{ms:List (Heap×Nat)}{m:Heap}{inc:Nat},(∀c∈ch,L c.1=true->∀j,c.2.testBit j=true->L j=true)->zCs G al nx r ch ms=true->cur L ch ms=some (m,inc)->zD9 G al nx r m inc=true
 |[],x::ms,m,inc,_,h,b=>by
  simp only[cur,QK]at b;subst b
  simpa[zCs]using h
 |[],[],m,inc,_,h,b=>by simp[cur]at b
 |c::ch,[],m,inc,_,h,b=>by simp[cur]at b
 |(c,p)::ch,(m0,n)::ms,m,inc,f,h,b=>by
  have h1:L c=true->∀j,p.testBit j=true->L j=true:=f _ (.head _);simp only[cur]at b;simp only[zCs]at h;split at b
  .rename_i k;cases b;split at h
   .exact h
   .split at h
    .rename_i g;have:=h1 k _ g;rw[hi]at this;cases this
    .split at h
     .rename_i q;exact q
     .cases h
  .rename_i k;split at h
   .rename_i g;have:=e _ g;rw[k]at this;cases this
   .have l:=λh=>zSf (al:=al) (nx:=nx) (ch:=ch) (ms:=ms) (m:=m) (inc:=inc) hi e (λx s=>f x (.tail _ s)) h b
    split at h
    .exact l h
    .split at h
     .exact l h
     .cases h
end
end DRun
end Go.Sy
namespace Go.Sy
namespace DRun
variable{P:Program}{G:Cx}{call:Call}{ops:Array Oper}{ds:List XD}{st:Nat->DS}{H0:Heap}{fr0:Fr}{nx0 nt:Nat}
variable{dl:List Deferred}{E0 E:Env}{w0 w:World}{a:Act}{L L':Nat->Bool}{i:Nat}{o:Oper}{d:XD}
theorem put_defers{a:Act}{d:Option Nat}{v:Value}:(a.put d v).defers=a.defers:=by
 unfold Act.put;split<;>rfl
theorem put_size{a:Act}{d:Option Nat}{v:Value}:(a.put d v).tmps.size=a.tmps.size:=by
 unfold Act.put;split<;>simp
theorem wpOp_of{Q:Exit->Act->World->Prop}{K:Act->World->Prop}(ho:ops[i]?=some o)(b:Region.wanted o (yielded ops a.tmps)=true)(h:o.wp P a w K Q):wpOp P ops Q i K a w:=by
 unfold wpOp;simp only[ho,b,if_true];exact .inl h
theorem wpOp_not{Q:Exit->Act->World->Prop}{K:Act->World->Prop}(ho:ops[i]?=some o)(b:Region.wanted o (yielded ops a.tmps)=false)(h:K (a.put o.dst undef) w):wpOp P ops Q i K a w:=by
 unfold wpOp;simp only[ho,b];exact h
theorem zbG{α:Type}(a b c:List α):(a++b++c).Perm (a++c++b):=by
 rw[QP,QP];exact List.perm_append_comm.append_left a
theorem exec(J:zFR P G call)(hm:zAZ P G)(R:DRun P G call ops ds st H0 fr0 nx0 nt)(vq:HR E0 H0 w0)(af:GR G E0 w0)(ay:zFP E0 nx0 (st ops.size).nx)
  (ho:ops[i]?=some o) (S:L i=false) (u:∀j,L' j=(L j||j==i))
  (V:∀(k:Nat)(dk:XD),L k=true->ds[k]?=some dk->∀j,dk.qg.testBit j=true->L j=true) (t:∀d,ds[i]?=some d->∀j,d.qg.testBit j=true->L j=true)
  (M:Inv dl st ops.size E0 H0 w0 fr0 nt L E w a) {K:Act->World->Prop} {Q:Exit->Act->World->Prop} (hK:∀E' a' w',Inv dl st ops.size E0 H0 w0 fr0 nt L' E' w' a'->K a' w'):wpOp P ops Q i K a w:=by
 have hc:zEV call:=J.le;have hi:i<ops.size:=(Array.getElem?_eq_some_iff.1 ho).1;obtain⟨d,hd,hs⟩:=R.step i o ho;have t:=t d hd;have A:=looked hc R ho hd S V t M;obtain⟨m,inc,C,D,Y,ht⟩:=M.heap;have hg:GR G E w:=λg v hv=>⟨ht.vr vq (af g v hv).1,(af g v hv).2.mono ht.qp⟩
 have O:=zau hc R hi S ay ht;have z:∀{j:Nat},L' j=true↔L j=true\/j=i:=λ{j}=>by rw[u];simp
 have close:∀{E':Env}{w':World}{v:AV}{cv:Value}{U:Heap}{y:Nat},(st (i+1)).tr=(i,(zu P ops o).dst,v)::(st i).tr->VR E' w' v cv->cur L' (st ops.size).ch (st ops.size).ms=some (U,y) →
   (∀j,y.testBit j=true->L' j=true)->HR E' (within (λj=>L' j&&!y.testBit j) (st ops.size).al++U) w' →
   Tr E (within (λj=>L j&&!inc.testBit j) (st ops.size).al++m) w E' (within (λj=>L' j&&!y.testBit j) (st ops.size).al++U) w' (st i).nx (st (i+1)).nx->K (a.put o.dst cv) w':=by
  intro E' w' v cv U y hw hv h1 h2 h3 h4;refine hK E' _ w' ⟨by rw[put_size];exact M.size,by rw[put_defers];exact M.defers,behind hc R ho hd S u V M hw (h4.vr Y) hv,U,y,h1,h2,h3,ht.step h4 λh=>zch hi u h⟩
 have N:∀{E':Env}{w':World}{v:AV}{cv:Value},(st (i+1)).tr=(i,(zu P ops o).dst,v)::(st i).tr->VR E' w' v cv->(st (i+1)).al=(st i).al->(st (i+1)).ch=(st i).ch->(st (i+1)).nx=(st i).nx →
   HR E' (within (λj=>L j&&!inc.testBit j) (st ops.size).al++m) w' →
   Tr E (within (λj=>L j&&!inc.testBit j) (st ops.size).al++m) w E' (within (λj=>L j&&!inc.testBit j) (st ops.size).al++m) w' (st i).nx (st i).nx->K (a.put o.dst cv) w':=by
  intro E' w' v cv hw hv h1 h2 h3 h4 h5;have e1:cur L' (st ops.size).ch (st ops.size).ms=some (m,inc):=by
   rw[←C];refine zO9 λc s=>?_
   have:=zbF hc R hi h2 c s;rw[u];simp[this]
  have X:within (λj=>L' j&&!inc.testBit j) (st ops.size).al=within (λj=>L j&&!inc.testBit j) (st ops.size).al:=by
   refine zC5 λx p=>?_
   have:=zbE hc R hi h1 x p;have e:L' x.1=L x.1:=by rw[u];simp[this]
   simp only[e]
  refine close hw hv e1 (λj F=>z.2 (.inl (D j F))) (by rw[X];exact h4) ?_
  rw[X,h3];exact h5
 obtain⟨nw,ab,ad⟩:=(R.last hc (i:=i+1) hi).al;obtain⟨nc,nm,ac,ae,aj,ag⟩:=(R.last hc (i:=i+1) hi).ch;have low:=R.lows i (Qe hi);generalize l:st (i+1)=s1 at hs;have az:=l;cases hs with
 |skip q=>
  exact wpOp_not ho (zCn A q (.inl rfl)) (N (v:=.qd []) (cv:=undef) (by rw[l]) (VR.qG (vs:=#[]) VRs.nil) (by rw[l]) (by rw[l]) (by rw[l]) Y (.refl _))
 |pure v q p=>
  have r:(zu P ops o).op≠.bad:=λe=>by rw[e]at p;simp[xo,zR1]at p
  have aa:HR E ([]++(within (λj=>L j&&!inc.testBit j) (st ops.size).al++m)) w:=Y
  refine wpOp_of ho (zCn A q (.inr r)) (zHC (Y.sub (List.nil_sublist _)) A hg hm zE9 (zFa r) (λh h1 h2=>by omega) (zIj.symm.trans p) K Q λcv E' w' h1 h2 h3=>?_)
  obtain⟨f1,f2⟩:=Tr.frame aa h1 h2;exact N (v:=v) (by rw[l]) h3 (by rw[l]) (by rw[l]) (by rw[l]) f1 f2
 |read v q hk=>
  have au:=R.reads _ ((R.last hc (i:=i+1) hi).rd ⟨i,(zu P ops o).op,only d.looks (st i).fr,d.qg,v⟩ (by rw[l];exact .head _))
  have T:=zSf (L:=L) S t (λc s hl j F=>by
   obtain⟨dc,h1,h2⟩:=R.chains ops.size (QB _) c s;exact V _ _ hl h1 j (h2▸F)) au C
  unfold zD9 at T;split at T
  .rename_i v' H1 n1 p;have:=zeb T;simp only at this p;subst this;obtain⟨e1,X⟩:=zWD hk (zIj.symm.trans p);subst e1;subst X;have r:(zu P ops o).op≠.bad:=λe=>by rw[e]at hk;cases hk
   have hp:=zKU (f:=λj=>L j&&!inc.testBit j) (g:=but d.qg inc) (al:=(st ops.size).al) λx _ p=>by
    simp only[but,QA]at p;simp only[t _ p.1,p.2,Bool.and_self]
   have B:=(hp.append_right m).trans (zbG _ _ _);have I:=Y.perm B;refine wpOp_of ho (zCn A q (.inr r)) (zHC (I.sub (List.sublist_append_left _ _)) A hg hm zE9 (zFa r) (λh h1 h2=>by omega) (zIj.symm.trans p) K Q λcv E' w' h1 h2 h3=>?_)
   obtain⟨f1,f2⟩:=Tr.frame I h1 h2;have f3:=f2.perm B.symm B.symm;exact N (v:=v') (by rw[l]) h3 (by rw[l]) (by rw[l]) (by rw[l]) (f1.perm B.symm) ⟨QB _,f3.agree,λh=>(f3.qy h).trans ⟨Or.imp id λ⟨a,b⟩=>by omega,Or.imp id λ⟨a,b⟩=>by omega⟩,f3.qJ,f3.qS,f3.own,f3.tape,f3.os,f3.output,f3.size,f3.qM,f3.qp,f3.sig⟩
  .cases T
 |alloc v ob q p=>
  have r:(zu P ops o).op≠.bad:=λe=>by rw[e]at p;simp[xo,zR1]at p
  have aa:HR E ([]++(within (λj=>L j&&!inc.testBit j) (st ops.size).al++m)) w:=Y
  rw[l]at O;refine wpOp_of ho (zCn A q (.inr r)) (zHC (Y.sub (List.nil_sublist _)) A hg hm zE9 (zFa r) O (zIj.symm.trans p) K Q λcv E' w' h1 h2 h3=>?_)
  obtain⟨f1,f2⟩:=Tr.frame aa h1 h2;have e1:cur L' (st ops.size).ch (st ops.size).ms=some (m,inc):=by
   rw[←C];refine zO9 λc s=>?_
   have:=zbF hc R hi (by rw[l]) c s
   rw[u];simp[this]
  have X:(within (λj=>L' j&&!inc.testBit j) (st ops.size).al).Perm ((((st i).nx,ob))::within (λj=>L j&&!inc.testBit j) (st ops.size).al):=by
   rw[ab,l];simp only[zEW];have g1:within (λj=>L' j&&!inc.testBit j) nw=within (λj=>L j&&!inc.testBit j) nw:=zC5 λx p=>by
    have:x.1≠i:=by have:=ad x p;omega
    have e:L' x.1=L x.1:=by rw[u];simp[this]
    simp only[e]
   have g2:within (λj=>L' j&&!inc.testBit j) (st i).al=within (λj=>L j&&!inc.testBit j) (st i).al:=zC5 λx p=>by
    have:x.1≠i:=by have:=low.al x p;omega
    have e:L' x.1=L x.1:=by rw[u];simp[this]
    simp only[e]
   have g3:inc.testBit i=false:=by
    cases h:inc.testBit i with
    |false=>rfl
    |true=>rw[D i h]at S;cases S
   have g4:L' i=true:=z.2 (.inr rfl);simp only[within,g1,g2,g3,g4,S,Bool.not_false,QT];exact List.perm_middle
  have e3:=X.append_right m;refine close (v:=v) (by rw[l]) h3 e1 (λj F=>z.2 (.inl (D j F))) (f1.perm e3.symm) ?_
  rw[l];exact f2.perm (.refl _) e3.symm
 |chain v m0 ak ms U n q ax aw p=>
  have r:(zu P ops o).op≠.bad:=λe=>by rw[e]at p;simp[xo,zR1]at p
  have W:∀c∈nc,L c.1=false:=λc s=>by
   cases h:L c.1 with
   |false=>rfl
   |true=>
    obtain⟨dc,h1,h2⟩:=R.chains ops.size (QB _) c (ac▸Qw _ s)
    have h3:=(ag c s).2 (i,d.qg) (by rw[l];exact .head _)
    have h4:=V _ _ h h1 i (h2▸h3)
    rw[S]at h4;cases h4
  have ai:∀c∈(st i).ch,L c.1=true:=λc s=>t _ (aw c s)
  have ah:some (m,inc)=some (m0,ak):=by
   rw[←C,ac,ae,zNu aj W,l];simp only[cur,S];rw[ax];exact zUW ai
  cases ah;have e1:cur L' (st ops.size).ch (st ops.size).ms=some (U,inc ||| zBv d.qg (st i).al):=by
   rw[ac,ae,zNu aj λc s=>?_,l]
   .have g4:L' i=true:=z.2 (.inr rfl);simp only[cur,g4]
   .have h1:=(ag c s).1;have:c.1≠i:=by omega
    rw[u,W c s];simp[this]
  have hp:=zKU (f:=λj=>L j&&!inc.testBit j) (g:=but d.qg inc) (al:=(st ops.size).al) λx _ p=>by
   simp only[but,QA]at p;simp only[t _ p.1,p.2,Bool.and_self]
  have ar:within (but d.qg inc) (st ops.size).al=within (but d.qg inc) (st i).al:=by
   rw[ab,l,zEW,zDU,List.nil_append];intro x p;have h1:=ad x p;cases h:but d.qg inc x.1 with
   |false=>rfl
   |true=>
    simp only[but,QA]at h;have:=R.low i d _ hd h.1;omega
  have B:=(hp.append_right m).trans (zbG _ _ _);rw[ar]at B;have I:=Y.perm B;rw[l]at O;refine wpOp_of ho (zCn A q (.inr r)) (zHC (I.sub (List.sublist_append_left _ _)) A hg hm J (zFa r) O (zIj.symm.trans p) K Q λcv E' w' h1 h2 h3=>?_)
  obtain⟨f1,f2⟩:=Tr.frame I h1 h2;have X:within (λj=>L' j&&!(inc ||| zBv d.qg (st i).al).testBit j) (st ops.size).al=within (λj=>(L j&&!inc.testBit j)&&!but d.qg inc j) (st ops.size).al:=by
   refine zC5 λx p=>?_
   have ao:x.1≠i:=zbE hc R hi (by rw[l]) x p
   have aq:(zBv d.qg (st i).al).testBit x.1=d.qg.testBit x.1:=by
    rw[Bool.eq_iff_iff,zIm];refine⟨And.left,λh=>⟨h,?_⟩⟩
    rw[ab,l]at p;rcases QI.1 p with p|p
    .have:=ad x p;have:=R.low i d _ hd h;omega
    .exact⟨x,p,rfl⟩
   have:(x.1==i)=false:=by simp[ao]
   simp only[u,this,Bool.or_false,Nat.testBit_or,aq,but];cases L x.1<;>cases inc.testBit x.1<;>cases d.qg.testBit x.1<;>rfl
  have e3:(U++within (λj=>(L j&&!inc.testBit j)&&!but d.qg inc j) (st ops.size).al).Perm (within (λj=>L' j&&!(inc ||| zBv d.qg (st i).al).testBit j) (st ops.size).al++U):=by
   rw[X];exact List.perm_append_comm
  refine close (v:=v) (by rw[l]) h3 e1 (λj F=>?_) (f1.perm e3) ?_
  .rw[Nat.testBit_or,Bool.or_eq_true,zIm]at F;rcases F with F|F
   .exact z.2 (.inl (D j F))
   .exact z.2 (.inl (t j F.1))
  .rw[l];exact f2.perm B.symm e3
end DRun
end Go.Sy
namespace Go.Sy
def zUX(r:Nat->Option Nat)(o:Oper)(m:Nat):Prop:=
 ∀k,m.testBit k=true->∃e∈o.after,Region.binds .any e=true/\(k=e.on\/∃b,r e.on=some b/\b.testBit k=true)
theorem zSg(acc:Array Nat):∀(es:List Edge)(s k:Nat),(es.foldl (λs e=>if Region.binds .any e then s ||| 2 ^ e.on ||| acc.getD e.on 0 else s) s).testBit k=true →
  s.testBit k=true\/∃e∈es,Region.binds .any e=true/\(k=e.on\/∃b,acc[e.on]?=some b/\b.testBit k=true)
 |[],s,k,h=>.inl h
 |e::es,s,k,h=>by
  rcases zSg acc es _ k h with h|⟨c,h1,h2⟩
  .simp only at h;split at h
   .rename_i hb;rw[Nat.testBit_or,Nat.testBit_or,Bool.or_eq_true,Bool.or_eq_true]at h;rcases h with(h|h)|h
    .exact .inl h
    .rw[Nat.testBit_two_pow]at h;exact .inr ⟨e,.head _,hb,.inl (by have:=Qm h;exact this.symm)⟩
    .refine .inr ⟨e,.head _,hb,.inr ?_⟩
     rw[Array.getD_eq_getD_getElem?]at h;cases hm:acc[e.on]? with
     |none=>rw[hm]at h;simp at h
     |some b=>rw[hm]at h;exact⟨b,rfl,h⟩
   .exact .inl h
  .exact .inr ⟨c,.tail _ h1,h2⟩
theorem zTI:∀(c:List Oper)(acc:Array Nat),let r:=c.foldl (λacc o=>acc.push (o.after.foldl (λs e=>if Region.binds .any e then s ||| 2 ^ e.on ||| acc.getD e.on 0 else s) 0)) acc
  (∀(j m:Nat),acc[j]?=some m->r[j]?=some m)/\r.size=acc.size+c.length/\∀(j:Nat)(o:Oper),c[j]?=some o->∃m,r[acc.size+j]?=some m/\zUX (λj=>r[j]?) o m
 |[],acc=>⟨λ_ _ h=>h,rfl,λj o h=>by simp at h⟩
 |o::c,acc=>by
  intro r;obtain⟨h1,h2,h3⟩:=zTI c (acc.push (o.after.foldl (λs e=>if Region.binds .any e then s ||| 2 ^ e.on ||| acc.getD e.on 0 else s) 0))
  have up:∀(j m:Nat),acc[j]?=some m->r[j]?=some m:=λj m h=>h1 j m (by
   have:=(Array.getElem?_eq_some_iff.1 h).1;rw[Array.getElem?_push_lt this];rw[Qf this]at h;exact h)
  have f:r.size=acc.size+1+c.length:=by rw[Array.size_push]at h2;exact h2
  refine⟨up,by rw[f,QL];omega,λj n g=>?_⟩
  cases j with
  |zero=>
   simp at g;subst g;refine⟨_,h1 acc.size _ Array.getElem?_push_size,λk l=>?_⟩
   rw[←Array.foldl_toList]at l;rcases zSg acc _ 0 k l with h|⟨e,q,hb,h⟩
   .simp at h
   .exact⟨e,by simpa using q,hb,h.imp id λ⟨p,a,b⟩=>⟨p,up _ _ a,b⟩⟩
  |succ j=>
   obtain⟨m,a,b⟩:=h3 j n (by simpa using g)
   refine⟨m,?_,b⟩
   rw[←a];congr 1;simp;omega
theorem zQZ{ops:Array Oper}:(Region.before ops).size=ops.size/\∀(j:Nat)(o:Oper),ops[j]?=some o->∃m,(Region.before ops)[j]?=some m/\zUX (λj=>(Region.before ops)[j]?) o m:=by
 have h:=zTI ops.toList #[];have e:Region.before ops=ops.toList.foldl (λacc o=>acc.push (o.after.foldl (λs e=>if Region.binds .any e then s ||| 2 ^ e.on ||| acc.getD e.on 0 else s) 0)) #[]:=by
  rw[Array.foldl_toList];rfl
 rw[e];refine⟨by simpa using h.2.1,λj o c=>?_⟩
 obtain⟨m,a,b⟩:=h.2.2 j o (by simpa using c)
 exact⟨m,by simpa using a,b⟩
theorem zPa{ops:Array Oper}{P:Program}:∀{c:List Oper}{ms:JV}{i:Nat}{d:XD},(zDt ops P c ms)[i]?=some d->∃m,ms[i]?=some m/\d.qg=m
 |o::r,m::ms,0,d,h=>by simp[zDt]at h;exact⟨m,rfl,by rw[←h]⟩
 |o::r,m::ms,i+1,d,h=>by
  simp only[zDt,List.getElem?_cons_succ]at h;obtain⟨e,a,b⟩:=zPa h;exact⟨e,by simpa using a,b⟩
 |[],ms,i,d,h=>by simp[zDt]at h
 |_::_,[],i,d,h=>by simp[zDt]at h
theorem zNv:∀{g:List Oper}{i:Nat},zQd i g=true->∀(j:Nat)(o:Oper),g[j]?=some o->∀e∈o.after,Region.binds .any e=true->e.on<i+j
 |o::r,i,h,0,f,b,e,c,hb=>by
  simp at b;subst b;simp only[zQd,QA,QH]at h;have:=h.1 e (by simpa using c)
  simp only[hb,Bool.not_true,Bool.false_or]at this;rw[Qi]at this;exact this
 |o::r,i,h,j+1,f,b,e,c,hb=>by
  simp only[zQd,QA]at h;have:=zNv h.2 j f (by simpa using b) e c hb
  omega
 |[],i,h,j,f,b,e,c,hb=>by simp at b
theorem zKV:∀{xs:List XOper}{ds:List XD}{i:Nat}{es:List (Nat×Option Nat×XD)},zMR i es xs ds=true->∀(k:Nat)(y:XOper)(b:XD),xs[k]?=some y->ds[k]?=some b →
  (∀e∈es,b.qg.testBit e.1=true\/zIk e.2.1 e.2.2 y.dst b=true)/\∀(j:Nat)(x:XOper)(f:XD),j<k->xs[j]?=some x->ds[j]?=some f->b.qg.testBit (i+j)=true\/zIk x.dst f y.dst b=true
 |[],_,_,_,_,k,y,b,h,_=>by simp at h
 |_::_,[],_,_,h,_,_,_,_,_=>by simp[zMR]at h
 |p::xs,d0::ds,i,es,h,k,y,b,g,hd=>by
  simp only[zMR,QA,QH,Bool.or_eq_true]at h;cases k with
  |zero=>
   simp at g hd;subst g;subst hd;exact⟨h.1,λj x f m=>by omega⟩
  |succ k=>
   obtain⟨h1,h2⟩:=zKV h.2 k y b (by simpa using g) (by simpa using hd)
   refine⟨λe n=>h1 e (.tail _ n),λj x f m l c=>?_⟩
   cases j with
   |zero=>
    simp at l c;subst l;subst c;exact h1 _ (.head _)
   |succ j=>
    have:=h2 j x f (by omega) (by simpa using l) (by simpa using c)
    rwa [show i+(j+1)=i+1+j by omega]
namespace DRun
variable{dl:List Deferred}{P:Program}{G:Cx}{call:Call}{ops:Array Oper}{ds:List XD}{st:Nat->DS}{H0:Heap}{fr0:Fr}{nx0 nt:Nat}
def Ahead(ops:Array Oper)(ds:List XD):Prop:=
 ∀(j:Nat)(o:Oper)(d:XD),ops[j]?=some o->ds[j]?=some d->∀k,d.qg.testBit k=true->∃e∈o.after,Region.binds .any e=true/\(k=e.on\/∃b,ds[e.on]?=some b/\b.qg.testBit k=true)
def Down(ops:Array Oper):Prop:=∀(j:Nat)(o:Oper),ops[j]?=some o->∀e∈o.after,Region.binds .any e=true->e.on<j
theorem any_order(t:zFR P G call)(hm:zAZ P G)(R:DRun P G call ops ds st H0 fr0 nx0 nt){E0:Env}{w0:World}(vq:HR E0 H0 w0)(J:GR G E0 w0)(D:zFP E0 nx0 (st ops.size).nx)
  (X:Ahead ops ds) (I:Down ops) {Q:Exit->Act->World->Prop} (M:∀L E w a,(∀j,j<ops.size->L j=true)->Inv dl st ops.size E0 H0 w0 fr0 nt L E w a->Q .normal a w):
  ∀(fuel:Nat)(listed:Array Bool)(E:Env)(a:Act)(w:World),listed.size=ops.size->listed.toList.count false<=fuel →
   (∀(k:Nat)(y:XD),listed.getD k false=true->ds[k]?=some y->∀j,y.qg.testBit j=true->listed.getD j false=true) →
   Inv dl st ops.size E0 H0 w0 fr0 nt (λj=>listed.getD j false) E w a->wpAny P .any ops Q fuel listed a w:=by
 have done:∀(listed:Array Bool),listed.size=ops.size->Region.ready .any ops listed=[]->∀j,j<ops.size->listed.getD j false=true:=by
  intro listed c z j
  induction j using Nat.strongRecOn with
  |_ j K=>
   intro f;cases hl:listed.getD j false with
   |true=>rfl
   |false=>
    have g:j<listed.size:=c▸f
    have:j∈Region.ready .any ops listed:=by
     rw[mem_ready];refine⟨?_,ops[j],Qf f,λe C hb=>?_⟩
     .simpa[g]using hl
     .have:=I j _ (Qf f) e C hb;exact K e.on this (by omega)
    rw[z]at this;cases this
 intro fuel
 induction fuel with
 |zero=>
  intro listed E a w c hc n m;have q:∀j,j<ops.size->listed.getD j false=true:=by
   intro j f;have g:j<listed.size:=c▸f
   cases hl:listed.getD j false with
   |true=>rfl
   |false=>
    have:false∈listed.toList:=by
     have h2:listed[j]=false:=by simpa[g]using hl
     rw[←h2];simp
    have:=List.count_pos_iff.2 this;omega
  refine⟨?_,M _ E w a q m⟩
  cases z:Region.ready .any ops listed with
  |nil=>rfl
  |cons x r=>
   have V:x∈Region.ready .any ops listed:=by rw[z];exact .head _
   obtain⟨h1,o,v,_⟩:=mem_ready.1 V;have l:=(Array.getElem?_eq_some_iff.1 v).1;have h2:=q x l;have g:x<listed.size:=c▸l
   simp[g]at h1 h2;rw[h2]at h1;cases h1
 |succ fuel K=>
  intro listed E a w c hc n m;refine⟨λz=>M _ E w a (done listed c z) m,λi hi=>?_⟩
  obtain⟨h1,o,v,h2⟩:=mem_ready.1 hi;have l:=(Array.getElem?_eq_some_iff.1 v).1;have b:i<listed.size:=c▸l
  have F:listed.getD i false=false:=by simpa[b]using h1
  have A:∀j,(listed.setIfInBounds i true).getD j false=(listed.getD j false||j==i):=by
   intro j;by_cases f:i=j
   .subst f;simp[b]
   .rw[getD_set_ne false f];have:(j==i)=false:=by simp;exact λh=>f h.symm
    simp[this]
  have p:∀(d:XD),ds[i]?=some d->∀j,d.qg.testBit j=true->listed.getD j false=true:=by
   intro d hd j f;obtain⟨e,C,hb,h|⟨U,h3,h4⟩⟩:=X i o d v hd j f
   .rw[h];exact h2 e C hb
   .exact n e.on U (h2 e C hb) h3 j h4
  refine exec t hm R vq J D v F A n p m λS T O u=>K _ S T O (by simpa using c) ?_ ?_ u
  .have h3:listed.toList[i]?=some false:=by
    have:listed[i]=false:=by simpa[b]using F
    simp[b,this]
   have h4:(listed.setIfInBounds i true).toList=listed.toList.set i true:=by simp
   rw[h4,List.count_set (by simpa using b)]
   have N:listed.toList[i]'(by simpa using b)=false:=by simpa[b]using F
   have W:0<listed.toList.count false:=List.count_pos_iff.2 (by rw[←N];exact Qg _)
   simp only[N];simp;simp at W hc;omega
  .intro k y s B j f;rw[A]at s⊢;rw[Bool.or_eq_true,beq_iff_eq]at s;rcases s with s|s
   .rw[n k y s B j f];rfl
   .subst s;rw[p y B j f];rfl
end DRun
theorem zXx{P:Program}{G:Cx}{call:Call}{id:Nat}{ops:Array Oper}{xs:List XOper}{ds:List XD}{nt:Nat}{fr fr':Fr}{H H':Heap}{nx C:Nat}(f:zFR P G call)(hm:zAZ P G)(ab:P.follows .mixedOrders=true)
  (hc:zN P (.region id ops true)=some (.draw xs ds)) (T:zDZ nt (.draw xs ds)=true) (h:zQb G call xs ds (fr,H,nx)=some (fr',H',C)):
  nx<=C/\∀(E:Env)(w:World)(a:Act)(Q:Exit->Act->World->Prop)(dl:List Deferred),HR E H w->FrR E w fr a nt->GR G E w->zFP E nx C->a.defers=dl →
   (∀E' w' a',HR E' H' w'->Tr E H w E' H' w' nx C->FrR E' w' fr' a' nt->a'.defers=dl->Q .normal a' w')->(Code.region id ops true).wp P Q a w:=by
 simp only[zN]at hc;split at hc
 .rename_i ad;split at hc
  .rename_i hp;simp only[QK,XC.draw.injEq]at hc;obtain⟨rfl,rfl⟩:=hc;unfold zQb at h;split at h
   .rename_i s hs;split at h
    .rename_i aj;split at h
     .rename_i m inc F B;simp only[QK,Prod.mk.injEq]at h;obtain⟨rfl,rfl,rfl⟩:=h;obtain⟨st,O,y,e2⟩:=zMU hs;have U:(ops.toList.map (zu P ops)).length=ops.size:=by simp
      rw[U]at y;obtain⟨b1,b2⟩:=zQZ (ops:=ops);have J:∀{j:Nat}{d:XD},(zDt ops P ops.toList (Region.before ops).toList)[j]?=some d->(Region.before ops)[j]?=some d.qg:=λh=>by
       obtain⟨m,a,b⟩:=zPa h;rw[b];simpa using a
      have ac:∀(M:List Oper)(F:List Nat),M.length=F.length->(zDt ops P M F).length=M.length:=by
       intro M
       induction M with
       |nil=>intro F _;simp[zDt]
       |cons o M V=>intro F B;cases F with
        |nil=>simp at B
        |cons m F=>simp[zDt,V F (by simpa using B)]
      have p:DRun.Ahead ops (zDt ops P ops.toList (Region.before ops).toList):=by
       intro j o d I hd k A;obtain⟨m,c1,c2⟩:=b2 j o I;have:=J hd;rw[c1]at this;cases this;obtain⟨e,K,hb,h|⟨m',h3,h4⟩⟩:=c2 k A
       .exact⟨e,K,hb,.inl h⟩
       .refine⟨e,K,hb,.inr ?_⟩
        have hl:e.on<(zDt ops P ops.toList (Region.before ops).toList).length:=by
         rw[ac _ _ (by simp[b1])]
         have:=(Array.getElem?_eq_some_iff.1 h3).1
         simpa[b1]using this
        refine⟨_,QD hl,?_⟩
        have h5:=J (QD hl);have ah:(Region.before ops)[e.on]?=some m':=h3;rw[ah]at h5;rw[←Qt h5];exact h4
      have l:DRun.Down ops:=λj o I e K hb=>by
       have:=zNv ad j o (by simpa using I) e K hb
       omega
      have S:∀(j:Nat)(d:XD)(k:Nat),(zDt ops P ops.toList (Region.before ops).toList)[j]?=some d->d.qg.testBit k=true->k<j:=by
       intro j
       induction j using Nat.strongRecOn with
       |_ j V=>
        intro d k hd A;have u:j<ops.size:=by
         have:=(Array.getElem?_eq_some_iff.1 (J hd)).1;omega
        obtain⟨e,K,hb,h|⟨d',h3,h4⟩⟩:=p j _ d (Qf u) hd k A
        .rw[h];exact l j _ (Qf u) e K hb
        .have h5:=l j _ (Qf u) e K hb;have:=V e.on h5 d' k h3 h4;omega
      have q:∀{j:Nat}{o:Oper},ops[j]?=some o->(ops.toList.map (zu P ops))[j]?=some (zu P ops o):=λh=>by simp[h]
      have R:DRun P G call ops (zDt ops P ops.toList (Region.before ops).toList) st H fr nx nt:=by
       refine⟨λj o I=>?_,O,λj k oj ok dj dk af u A ai ae=>?_,S,λj o d I hd=>?_,λr N=>?_⟩
       .obtain⟨d,h1,h2⟩:=e2 j _ (q I);exact⟨d,h1,by simpa using h2⟩
       .have:=(zKV hp k _ dk (q A) ae).2 j _ dj af (q u) ai
        simpa[zBJ]using this
       .have h1:=QH.1 T _ (QF (q I));rw[zBJ,hd]at h1
        simpa[Qi]using h1
       .rw[y]at N⊢;exact QH.1 aj r N
      have aa:nx<=s.nx:=by
       have:=R.mono f.le (QN ops.size) (QB _);rw[O,y]at this;exact this
      refine⟨aa,λE w a Q dl N hf hg ak ag hQ=>?_⟩
      refine wp_region_any ab ?_
      obtain⟨d1,d2⟩:=zHT (w':={ w with drawn:=w.drawn+1 }) N ⟨rfl,rfl,rfl,rfl⟩ nx
      refine DRun.any_order (dl:=dl) (E0:=E) (w0:={ w with drawn:=w.drawn+1 }) f hm R d1 (λg v hv=>⟨d2.vr N (hg g v hv).1,(hg g v hv).2.mono d2.qp⟩) (by rw[y];exact ak) p l (λL E' w' a' hL z=>?_) ops.size _ E a _ (by simp) ?_ ?_ ?_
      .obtain⟨m',Y,i1,i2,i3,i4⟩:=z.heap;rw[y]at i1 i3 i4;have low:=R.lows ops.size (QB _);rw[y]at low;have i5:some (m',Y)=some (m,inc):=by
        rw[←i1,B];exact zUW λc hc=>hL _ (low.ch c hc)
       cases i5;have e3:within (λj=>L j&&!inc.testBit j) s.al=within (λj=>!inc.testBit j) s.al:=zC5 λx D=>by
        simp only[hL _ (low.al x D),Bool.true_and]
       rw[e3]at i3 i4;have e4:Tr E H { w with drawn:=w.drawn+1 } E' (within (λj=>!inc.testBit j) s.al++m) w' nx s.nx:=by
        refine i4.uY aa λh=>?_
        constructor
        .rintro ⟨j,u,_,h1,h2⟩
         have g1:=R.mono f.le (QN j) (Qe u);have g2:=R.mono f.le (i:=j+1) u (QB _);rw[O]at g1;rw[y]at g2;exact⟨Qh g1 h1,QW h2 g2⟩
        .rintro ⟨h1,h2⟩
         have W:∀n,n<=ops.size->h<(st n).nx->∃j,j<n/\(st j).nx<=h/\h<(st (j+1)).nx:=by
          intro n
          induction n with
          |zero=>intro _ hh;rw[O]at hh;exact absurd hh (by simpa using h1)
          |succ n V=>
           intro hn hh;by_cases D:h<(st n).nx
           .obtain⟨j,a,b⟩:=V (by omega) D
            exact⟨j,by omega,b⟩
           .exact⟨n,by omega,by omega,hh⟩
         obtain⟨j,a,b⟩:=W ops.size (QB _) (by rw[y];exact h2)
         exact⟨j,a,hL j a,b⟩
       refine hQ E' w' a' i3 (d2.trans d1 e4) ⟨z.size,λt v ht=>z.fr t v ?_⟩ z.defers
       rw[←ht,←y,←R.frames t ops.size (QB _)];refine zKh λx D _=>?_
       have low:=R.lows ops.size (QB _);exact hL _ (low.tr x D)
      .simp
      .intro k dk A;rw[Array.getD_eq_getD_getElem?,Array.getElem?_replicate]at A;split at A<;>simp at A
      .have X:∀j,(Array.replicate ops.size false).getD j false=false:=λj=>by
        rw[Array.getD_eq_getD_getElem?,Array.getElem?_replicate];split<;>rfl
       refine⟨hf.size,ag,λt v ht=>?_,H,0,?_,λj u=>by simp at u,?_,?_⟩
       .have:scan (λj=>(Array.replicate ops.size false).getD j false) fr t (st ops.size).tr=fr.get t:=by
         have:=zLQ (L:=λj=>(Array.replicate ops.size false).getD j false) (fr0:=fr) (t:=t) (r:=[]) (nw:=(st ops.size).tr) λx _ D=>by rw[X]at D;cases D
         simpa[scan]using this
        rw[this]at ht;exact d2.vr N (hf.get t v ht)
       .obtain⟨nc,nm,k1,k2,k3,_⟩:=(R.last f.le (i:=0) (QN _)).ch;rw[k1,k2,zNu k3 λc _=>X _,O]
        rfl
       .have:within (λj=>(Array.replicate ops.size false).getD j false&&!Nat.testBit 0 j) (st ops.size).al=[]:=zDU λx _=>by rw[X];rfl
        rw[this];exact d1
       .have:within (λj=>(Array.replicate ops.size false).getD j false&&!Nat.testBit 0 j) (st ops.size).al=[]:=zDU λx _=>by rw[X];rfl
        rw[this];exact uh.uk (.refl nx) λh=>⟨λ⟨j,_,u,_⟩=>by rw[X]at u;(cases u),λ⟨a,b⟩=>by omega⟩
     .cases h
    .cases h
   .cases h
  .cases hc
 .cases hc
end Go.Sy
namespace Go.Sy
def zUY:Ext->Exit
 |.normal=>.normal
 |.exit i=>.exit i
 |.ret=>.ret
section
variable{P:Program}{G:Cx}{call:Call}{nt:Nat}
theorem FrR.put{E E':Env}{w w':World}{fr:Fr}{a:Act}{d:Option Nat}{v:AV}{cv:Value}(b:FrR E w fr a nt)(hm:∀{v cv},VR E w v cv->VR E' w' v cv)(hd:∀n,d=some n->n<nt)(f:VR E' w' v cv):FrR E' w' (qv fr d v) (a.put d cv) nt:=by
 cases d with
 |none=>exact⟨b.size,λt u h=>hm (b.get t u h)⟩
 |some n=>
  refine⟨by rw[DRun.put_size];exact b.size,λt u h=>?_⟩
  simp only[qv,Fr.qu]at h;have c:n<a.tmps.size:=by rw[b.size];exact hd n rfl
  split at h
  .rename_i e;subst e;cases h
   simpa[Act.put,c]using f
  .rename_i e;have:(a.put (some n) cv).tmps.getD t undef=a.tmps.getD t undef:=by simp[Act.put,Array.getElem?_setIfInBounds_ne e]
   rw[this];exact hm (b.get t u h)
theorem GR.step{E E':Env}{H H':Heap}{w w':World}{a b:Nat}(e:HR E H w)(c:GR G E w)(t:Tr E H w E' H' w' a b):GR G E' w':=λg v h=>⟨t.vr e (c g v h).1,(c g v h).2.mono t.qp⟩
end
section
variable{P:Program}{G:Cx}{E:Env}{w:World}{H:Heap}{nx:Nat}
theorem zOu(sz:Nat):∀(n:Nat)(cs:JE),(chunks sz n cs).length=n
 |0,_=>rfl
 |n+1,cs=>by simp only[chunks,QL,zOu sz n]
theorem zSh{fr:Fr}{a:Act}{nt:Nat}(s:HR E H w)(l:FrR E w fr a nt):∀{rs:List ResultVar}{xs:List XR}{vs:JE},zI4 P rs=some xs->zG3 H fr xs=some vs →
  ∃cvs:JC,(rs.mapM (m:=Sem) λ|.tmp t=>pure (a.tmps.getD t undef)|.cell x t=>do loadVar t (←asAddr (a.tmps.getD x undef))).run P w=.ok cvs w/\VRs E w vs cvs
 |[],xs,vs,hc,h=>by
  simp only[zI4,QK]at hc;subst hc;simp only[zG3,QK]at h;subst h;exact⟨[],by simp,VRs.nil⟩
 |r::rs,xs,vs,hc,h=>by
  simp only[zI4]at hc;split at hc
  .rename_i x y c j;cases hc;simp only[zG3]at h;split at h
   .rename_i v e;split at h
    .rename_i C n;cases h;obtain⟨cvs,p,u⟩:=zSh s l j n;cases r with
     |tmp t=>
      simp only[zSX,QK]at c;subst c;exact⟨_::cvs,by simp only[List.mapM_cons,Sem.run_bind,Sem.run_pure,Result.andThen_ok,p],VRs.cons (l.get t v e) u⟩
     |cell b t=>
      simp only[zSX]at c;obtain⟨J,k,c⟩:=za c;obtain⟨K,g,c⟩:=za c;cases c;simp only[zUo]at e;split at e
      .rename_i A f;obtain⟨q,z,D,B,F⟩:=zR6 (P:=P) s (l.get b A f) k g e;have I:(asAddr (.pointer (some q))).run P w=.ok q w:=by simp[asAddr]
       refine⟨z::cvs,?_,VRs.cons F u⟩
       simp only[List.mapM_cons,Sem.run_bind,D,I,Sem.run_pure,Result.andThen_ok,B,p]
      .cases e
    .cases h
   .cases h
  .cases hc
def zSi:JC->Value
 |[v]=>v
 |b=>.tuple b.toArray
theorem zOv{fr:Fr}{a:Act}{nt:Nat}{fn:Func}{xs:List XR}{vs:JE}(k:HR E H w)(j:FrR E w fr a nt)(hc:zI4 P fn.results.toList=some xs)(h:zG3 H fr xs=some vs):
  ∃cv,(results fn a.tmps).run P w=.ok cv w/\VR E w (zBG vs) cv:=by
 obtain⟨b,f,e⟩:=zSh k j hc h;unfold results;rw[Array.mapM_eq_mapM_toList];refine⟨zSi b,?_,?_⟩
 .rw[Sem.run_bind,Sem.run_map];refine(congrArg (λr=>Result.andThen (Result.andThen r _) _) f).trans ?_
  rw[Result.andThen_ok,Result.andThen_ok];cases b with
  |nil=>simp[zSi]
  |cons v r=>cases r with
   |nil=>simp[zSi]
   |cons u r=>simp[zSi]
 .cases vs with
  |nil=>
   rw[e.of_nil];exact VR.qG (vs:=#[]) VRs.nil
  |cons v r=>
   obtain⟨cv,l,rfl,h1,h2⟩:=e.of_cons;cases r with
   |nil=>rw[h2.of_nil];exact h1
   |cons u r=>
    obtain⟨g,c,rfl,h3,h4⟩:=h2.of_cons;exact VR.qG (vs:=(cv::g::c).toArray) (VRs.cons h1 (VRs.cons h3 h4))
theorem zPb:∀{n:Nat}{args:JE}{t:Nat}{v:AV},(qI n args).get t=some v->∃i,t=n+i/\args[i]?=some v
 |n,[],t,v,h=>by simp[qI,Fr.get]at h
 |n,x::r,t,v,h=>by
  simp only[qI,Fr.get]at h;split at h
  .rename_i e;cases h;exact⟨0,by rw[←zb e];rfl,rfl⟩
  .obtain⟨i,e,h⟩:=zPb h;exact⟨i+1,by omega,by simpa using h⟩
end
end Go.Sy
namespace Go.Sy
open Go.ChangeShapes
structure Kept(W W':World):Prop where
 kept:∀S:MemPlace->Prop,W.keptBut W' S
 frozen:∀a:Addr,a.block<W.heap.size->W'.frozen? a=W.frozen? a
 size:W.heap.size<=W'.heap.size
 heap:∀b,b<W.heap.size->W'.heap[b]? = W.heap[b]?
 below:RowKit.Below W.heap.size W W'
theorem Kept.uk{E E':Env}{H':Heap}{W c:World}{a b:Nat}(t:Tr E [] W E' H' c a b):Kept W c:=by
 have h:∀b,b<W.heap.size->c.heap[b]? = W.heap[b]?:=λb hb=>t.qM b hb λp e=>by simp at e
 refine⟨λS=>⟨t.os,t.output,λi hi=>?_⟩,λa f=>?_,t.size,h,⟨t.os,t.tape,t.output,t.size,h⟩⟩
 .rw[h i hi];cases W.heap[i]? with
  |none=>rfl
  |some o=>cases o<;>simp
 .simp only[World.frozen?,h a.block f]
theorem zYV{H:Type}{enc:TypeId×Value->H}{P:Program}{f:Func}{s:ChangeSpec}{k fresh e n:Bool}{W y:World}{args:JB}{v:Value}{ds gs:List (DataW H)}{c pa pv:List MemPlace}
  (A:DataW.Whole enc P f.params.toList s.vars k W args.toList ds gs c)
  (m:∀(b:Nat)(q:Nat->Bool)(hd:Bool),DataW.TrodAll enc P y b q hd f.resultTypes.toList (v.resultList f.resultTypes.size) (s.fn H (ds++gs)).results [])
  (g:∀q:Nat->Bool,(∀p∈c,q p.block=true)->DataW.TrodAll enc P y 0 q true f.params.toList args.toList (s.fn H (ds++gs)).args pa)
  (h:∀q:Nat->Bool,(∀p∈c,q p.block=true)->DataW.TrodVars enc P y q s.vars (s.fn H (ds++gs)).vars pv)
  (x:c=pa++pv) (D:Kept W y)
  (C:∀(j:Nat)(t:TypeId)(r:Value),f.resultTypes[j]?=some t->(v.resultList f.resultTypes.size)[j]?=some r->Value.okWide P y .any 0 t r):
  s.post enc P f k fresh e n W args v y:=by
 have l:∀p∈c,(λb=>decide (b<W.heap.size)) p.block=true:=λp u=>by simpa using A.lt p u
 have B:=λp u=>A.lt p u
 refine⟨ds,gs,c,[],pa,pv,A,m _ _ _,g _ l,h _ l,D.kept _,λ_=>?_⟩
 obtain⟨_,_,_,_,_,F,I⟩:=A;refine⟨C,_,_,([]++pa)++pv,⟨[]++pa,pv,trodAll_append (g _ (λ_ _=>rfl)) (m _ _ _),h _ (λ_ _=>rfl),rfl,?_,?_⟩,?_⟩
 .intro b off u;have z:MemPlace.cell b off∈c:=by rw[x];simpa using u
  rw[D.frozen _ (B _ z)];exact F b off z
 .intro J;have:=I J;rw[x]at this
  simpa using this
 .intro p u _;rw[x]
  simpa using u
def Env.still(W:World)(σ:Nat->Value:=λ_=>.bool true):Env:=⟨id,λ_=>False,λb=>b<W.heap.size,σ⟩
theorem HR.still(W:World)(σ:Nat->Value:=λ_=>.bool true):HR (Env.still W σ) [] W:=
 ⟨.nil,λp b=>by simp at b,λp b=>by simp at b,λp b=>by simp at b,λp b=>by simp at b,λ_ hb=>hb⟩
theorem zXy{P:Program}{G:Cx}{f:FuncId}{args:JE}{cargs:JB}{n:Nat}{H':Heap}{W:World}{σ:Nat->Value}(c:FnT P G f args [] 0 (.bool true) H' n)(j:VRs (Env.still W σ) W args cargs.toList)(g:GR G (Env.still W σ) W):
  Calls P f cargs W λe b=>e=.returned (.bool true)/\Kept W b:=by
 refine(c (Env.still W σ) W cargs (.still W σ) j g λ_ _ _ h=>h).mono λe b h=>?_
 obtain⟨k,l,rfl,h1,h2,h3⟩:=h;rw[h3.of_bool];exact⟨rfl,.uk h2⟩
end Go.Sy
namespace Go.Sy
set_option maxRecDepth 4000
inductive Box(α:Type) where
 |mk (f:α)
noncomputable section
end
end Go.Sy
namespace Go.Sy
noncomputable section
def bx{α β:Type}(b:Box α)(f:α->Box β):Box β:=Box.rec (motive:=λ_=>Box β) f b
end
set_option maxRecDepth 8000
def zJx:Option XV->List XV
 |none=>[]
 |some x=>[x]
def XO.qb:XO->List XV
 |.bad =>[]
 |.wM x=>[x]
 |.pick c a b=>[c]++[a]++[b]
 |.bin _ x y=>[x]++[y]
 |.beq _ x y=>[x]++[y]
 |.ui _ x y=>[x]++[y]
 |.wG _ _ x y=>[x]++[y]
 |.vZ _ _ _ x y=>[x]++[y]
 |.seq _ x y=>[x]++[y]
 |.ur _ x y=>[x]++[y]
 |.uq _ x y=>[x]++[y]
 |.un _ x=>[x]
 |.conv _ x=>[x]
 |.vU x=>[x]
 |.vF x=>[x]
 |.uB x=>[x]
 |.mark x=>[x]
 |.vA x c=>[x]++[c]
 |.vB x c=>[x]++[c]
 |.vS x _ _ _=>[x]
 |.ext x _=>[x]
 |.wW x i=>[x]++[i]
 |.wg x i _ _ _=>[x]++[i]
 |.box x _=>[x]
 |.alloc _=>[]
 |.build _ h=>h.map (·.2.2)
 |.qx _ _ _ h=>h.map (·.2.2)
 |.load x _ _=>[x]
 |.store a x _=>[a]++[x]
 |.qQ x=>[x]
 |.qD x _=>[x]
 |.qB x i _=>[x]++[i]
 |.qz x i _ _=>[x]++[i]
 |.wP x g hi=>[x]++zJx g++zJx hi
 |.wA x g hi j _=>[x]++zJx g++zJx hi++zJx j
 |.vY x g hi _ _=>[x]++zJx g++zJx hi
 |.w4 x=>[x]
 |.wq x=>[x]
 |.ub x=>[x]
 |.w7 _=>[]
 |.cap x=>[x]
 |.append x y _ _=>[x]++[y]
 |.copy x y _=>[x]++[y]
 |.uo x _ _=>[x]
 |.ux x=>[x]
 |.min x y=>[x]++[y]
 |.max x y=>[x]++[y]
 |.qN l c _ _ _=>[l]++[c]
 |.wv =>[]
 |.lookup _ _ m k _ _=>[m]++[k]
 |.wR _ _ m k v=>[m]++[k]++[v]
 |.del _ _ m k=>[m]++[k]
 |.wh _ first e=>first++e
 |.w8 _ x=>[x]
 |.ug x _ _ _=>[x]
 |.v8 x=>[x]
 |.vI x=>[x]
 |.call _ args=>args
 |.qO f args=>[f]++args
 |.invoke r _ args=>[r]++args
theorem zC1{G:Cx}{b c:Fr}:∀{l:List XV},(∀x∈l,x.ev G b=x.ev G c)->evs G b l=evs G c l
 |[],_=>rfl
 |x::r,h=>by simp only[evs,h x (.head _),zC1 λy e=>h y (.tail _ e)]
theorem zCu{G:Cx}{b c:Fr}{x:Option XV}(h:∀y∈zJx x,y.ev G b=y.ev G c):evo G b x=evo G c x:=by
 cases x with
 |none=>rfl
 |some y=>simp only[evo,h y (.head _)]
theorem zG5{G:Cx}{e c:Fr}:∀{f:List (Nat×Nat×XV)}{cs:JE},(∀x∈f.map (·.2.2),x.ev G e=x.ev G c)->zBe G e cs f=zBe G c cs f
 |[],_,_=>rfl
 |(a,b,x)::r,cs,h=>by
  simp only[zBe,h x (.head _)];cases x.ev G c with
  |none=>rfl
  |some v=>
   simp only;cases cellsOf v b with
   |none=>rfl
   |some new=>
    simp only;cases Nat.ble (a+b) cs.length with
    |false=>rfl
    |true=>exact zG5 λy g=>h y (.tail _ g)
theorem zUZ{G:Cx}{call:Call}{p j:Fr}{H:Heap}{nx:Nat}{o:XO}(h:∀x∈o.qb,x.ev G p=x.ev G j):xo G call p H nx o=xo G call j H nx o:=by
 rw[zIj,zIj];cases o with
 |bad =>rfl
 |wM x=>
  have e:=h x (by simp[XO.qb])
  simp only[xoS,e]
 |pick c a b=>
  have e:=h c (by simp[XO.qb])
  have g:=h a (by simp[XO.qb])
  have u:=h b (by simp[XO.qb])
  simp only[xoS,e,g,u]
 |bin op x y=>
  have e:=h x (by simp[XO.qb])
  have g:=h y (by simp[XO.qb])
  simp only[xoS,e,g]
 |beq neg x y=>
  have e:=h x (by simp[XO.qb])
  have g:=h y (by simp[XO.qb])
  simp only[xoS,e,g]
 |ui neg x y=>
  have e:=h x (by simp[XO.qb])
  have g:=h y (by simp[XO.qb])
  simp only[xoS,e,g]
 |wG neg F x y=>
  have e:=h x (by simp[XO.qb])
  have g:=h y (by simp[XO.qb])
  simp only[xoS,e,g]
 |vZ neg lit K x y=>
  have e:=h x (by simp[XO.qb])
  have g:=h y (by simp[XO.qb])
  simp only[xoS,e,g]
 |seq neg x y=>
  have e:=h x (by simp[XO.qb])
  have g:=h y (by simp[XO.qb])
  simp only[xoS,e,g]
 |ur neg x y=>
  have e:=h x (by simp[XO.qb])
  have g:=h y (by simp[XO.qb])
  simp only[xoS,e,g]
 |uq neg x y=>
  have e:=h x (by simp[XO.qb])
  have g:=h y (by simp[XO.qb])
  simp only[xoS,e,g]
 |un op x=>
  have e:=h x (by simp[XO.qb])
  simp only[xoS,e]
 |conv M x=>
  have e:=h x (by simp[XO.qb])
  simp only[xoS,e]
 |vU x=>
  have e:=h x (by simp[XO.qb])
  simp only[xoS,e]
 |vF x=>
  have e:=h x (by simp[XO.qb])
  simp only[xoS,e]
 |uB x=>
  have e:=h x (by simp[XO.qb])
  simp only[xoS,e]
 |mark x=>
  have e:=h x (by simp[XO.qb])
  simp only[xoS,e]
 |vA x c=>
  have e:=h x (by simp[XO.qb])
  have g:=h c (by simp[XO.qb])
  simp only[xoS,e,g]
 |vB x c=>
  have e:=h x (by simp[XO.qb])
  have g:=h c (by simp[XO.qb])
  simp only[xoS,e,g]
 |vS x off s D=>
  have e:=h x (by simp[XO.qb])
  simp only[xoS,e]
 |ext x i=>
  have e:=h x (by simp[XO.qb])
  simp only[xoS,e]
 |wW x i=>
  have e:=h x (by simp[XO.qb])
  have g:=h i (by simp[XO.qb])
  simp only[xoS,e,g]
 |wg x i len s D=>
  have e:=h x (by simp[XO.qb])
  have g:=h i (by simp[XO.qb])
  simp only[xoS,e,g]
 |box x s=>
  have e:=h x (by simp[XO.qb])
  simp only[xoS,e]
 |alloc z=>rfl
 |build z C=>
  have e:zBe G p z C=zBe G j z C:=zG5 λy q=>h y (by simpa[XO.qb]using q)
  simp only[xoS,e]
 |qx len s z C=>
  have e:zBe G p z C=zBe G j z C:=zG5 λy q=>h y (by simpa[XO.qb]using q)
  simp only[xoS,e]
 |load x s D=>
  have e:=h x (by simp[XO.qb])
  simp only[xoS,e]
 |store a x s=>
  have e:=h a (by simp[XO.qb])
  have g:=h x (by simp[XO.qb])
  simp only[xoS,e,g]
 |qQ x=>
  have e:=h x (by simp[XO.qb])
  simp only[xoS,e]
 |qD x off=>
  have e:=h x (by simp[XO.qb])
  simp only[xoS,e]
 |qB x i s=>
  have e:=h x (by simp[XO.qb])
  have g:=h i (by simp[XO.qb])
  simp only[xoS,e,g]
 |qz x i len s=>
  have e:=h x (by simp[XO.qb])
  have g:=h i (by simp[XO.qb])
  simp only[xoS,e,g]
 |wP x A hi=>
  have e:=h x (by simp[XO.qb])
  have g:evo G p A=evo G j A:=zCu λy q=>h y (by simp[XO.qb,q])
  have u:evo G p hi=evo G j hi:=zCu λy q=>h y (by simp[XO.qb,q])
  simp only[xoS,e,g,u]
 |wA x A hi I s=>
  have e:=h x (by simp[XO.qb])
  have g:evo G p A=evo G j A:=zCu λy q=>h y (by simp[XO.qb,q])
  have u:evo G p hi=evo G j hi:=zCu λy q=>h y (by simp[XO.qb,q])
  have J:evo G p I=evo G j I:=zCu λy q=>h y (by simp[XO.qb,q])
  simp only[xoS,e,g,u,J]
 |vY x A hi len s=>
  have e:=h x (by simp[XO.qb])
  have g:evo G p A=evo G j A:=zCu λy q=>h y (by simp[XO.qb,q])
  have u:evo G p hi=evo G j hi:=zCu λy q=>h y (by simp[XO.qb,q])
  simp only[xoS,e,g,u]
 |w4 x=>
  have e:=h x (by simp[XO.qb])
  simp only[xoS,e]
 |wq x=>
  have e:=h x (by simp[XO.qb])
  simp only[xoS,e]
 |ub x=>
  have e:=h x (by simp[XO.qb])
  simp only[xoS,e]
 |w7 n=>rfl
 |cap x=>
  have e:=h x (by simp[XO.qb])
  simp only[xoS,e]
 |append x y s bytes=>
  have e:=h x (by simp[XO.qb])
  have g:=h y (by simp[XO.qb])
  simp only[xoS,e,g]
 |copy x y s=>
  have e:=h x (by simp[XO.qb])
  have g:=h y (by simp[XO.qb])
  simp only[xoS,e,g]
 |uo x s z=>
  have e:=h x (by simp[XO.qb])
  simp only[xoS,e]
 |ux x=>
  have e:=h x (by simp[XO.qb])
  simp only[xoS,e]
 |min x y=>
  have e:=h x (by simp[XO.qb])
  have g:=h y (by simp[XO.qb])
  simp only[xoS,e,g]
 |max x y=>
  have e:=h x (by simp[XO.qb])
  have g:=h y (by simp[XO.qb])
  simp only[xoS,e,g]
 |qN l c s bytes z=>
  have e:=h l (by simp[XO.qb])
  have g:=h c (by simp[XO.qb])
  simp only[xoS,e,g]
 |wv =>rfl
 |lookup D F m k z ok=>
  have e:=h m (by simp[XO.qb])
  have g:=h k (by simp[XO.qb])
  simp only[xoS,e,g]
 |wR D F m k v=>
  have e:=h m (by simp[XO.qb])
  have g:=h k (by simp[XO.qb])
  have u:=h v (by simp[XO.qb])
  simp only[xoS,e,g,u]
 |del D F m k=>
  have e:=h m (by simp[XO.qb])
  have g:=h k (by simp[XO.qb])
  simp only[xoS,e,g]
 |wh fn first B=>
  have e:evs G p first=evs G j first:=zC1 λy q=>h y (by simp[XO.qb,q])
  have g:evs G p B=evs G j B:=zC1 λy q=>h y (by simp[XO.qb,q])
  simp only[xoS,e,g]
 |w8 t x=>
  have e:=h x (by simp[XO.qb])
  simp only[xoS,e]
 |ug x t ok z=>
  have e:=h x (by simp[XO.qb])
  simp only[xoS,e]
 |v8 x=>
  have e:=h x (by simp[XO.qb])
  simp only[xoS,e]
 |vI x=>
  have e:=h x (by simp[XO.qb])
  simp only[xoS,e]
 |call f args=>
  have e:evs G p args=evs G j args:=zC1 λy q=>h y (by simp[XO.qb,q])
  simp only[xoS,e]
 |qO f args=>
  have e:=h f (by simp[XO.qb])
  have g:evs G p args=evs G j args:=zC1 λy q=>h y (by simp[XO.qb,q])
  simp only[xoS,e,g]
 |invoke r m args=>
  have e:=h r (by simp[XO.qb])
  have g:evs G p args=evs G j args:=zC1 λy q=>h y (by simp[XO.qb,q])
  simp only[xoS,e,g]
noncomputable section
variable{nt:Nat->Bool}{G:Cx}
def zKi:List XV->JV
 |[]=>[]
 |.t n::r=>n::zKi r
 |_::r=>zKi r
theorem zEt{n:Nat}:∀{l:List XV},XV.t n∈l->n∈zKi l
 |.t m::r,h=>by
  rcases QJ.1 h with h|h
  .cases h;exact .head _
  .exact .tail _ (zEt h)
 |.c v::r,h=>by
  rcases QJ.1 h with h|h
  .cases h
  .exact zEt (l:=r) h
 |.g v::r,h=>by
  rcases QJ.1 h with h|h
  .cases h
  .exact zEt (l:=r) h
end
end Go.Sy
