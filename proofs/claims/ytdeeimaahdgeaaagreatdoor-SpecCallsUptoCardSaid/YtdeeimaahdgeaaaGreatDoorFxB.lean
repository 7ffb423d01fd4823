/- A LIBRARY: WHAT A FUNCTION'S CODE RECKONS, AS A LEAN FUNCTION, AND THAT ITS WORD IS THE MODEL'S: part 2 of 6. No condition. -/
import Derived.Test.YtdeeimaahdgeaaaGreatDoorFxA
import Derived.Laws.Build
import Derived.Lib.Bytealg
import Derived.Deep.LoopGhost
import Derived.Scope
import Derived.ChangeSame
import Derived.ChangeShapes
import Derived.ChangeAt
import Derived.KernelRfl
import Derived.Below
set_option linter.unusedVariables false
set_option linter.unusedSimpArgs false
namespace Go.Sy
section
variable {P:Program} {G:Cx} {E:Env} {w:World} {fr:Fr} {a:Act} {nt:Nat} {H:Heap} {nx:Nat}
theorem zOz {b:Array (Nat×Operand)}:(b.map λ(i,x)=>(i,a.eval x)).toList=b.toList.map λ(i,x)=>(i,a.eval x):=by simp
theorem zMP:∀{l:List Field},(∀f∈l,∃s,zL P f.type=some s)->∃b:List (Nat×Nat),(l.mapM λ f=>do pure (f.offset,←sizeOf f.type):Sem (List (Nat×Nat))).run P w=.ok b w/\b.length=l.length ∧
  ∀(i:Nat) f,l[i]? = some f->∃s,zL P f.type=some s/\b[i]? = some (f.offset,s)
 | [],_=>⟨[],by simp,rfl,λ i f h=>by simp at h⟩
 | f::l,h=>by
  obtain ⟨s,e⟩:=h f (.head _);obtain ⟨b,m,k,n⟩:=zMP (l:=l) (λ f j=>h f (.tail _ j))
  refine ⟨(f.offset,s)::b,?_,by simp [k],λ i g c=>?_⟩
  ·simp only [List.mapM_cons,Sem.run_bind,zA1 e,Result.andThen_ok,Sem.run_pure,m]
  ·cases i with
   | zero=>simp at c;subst c;exact ⟨s,e,rfl⟩
   | succ i=>simpa using n i g (by simpa using c)
theorem zOA {f c:Nat->Option (Nat×Nat)} (h:∀i o s,f i=some (o,s)->c i=some (o,s)):∀{e:List (Nat×Operand)} {b:List (Nat×Nat×XV)},cparts f e=some b->cparts c e=some b
 | [],b,hc=>by simpa [cparts] using hc
 | (i,x)::r,b,hc=>by
  simp only [cparts] at hc ⊢;split at hc
  ·rename_i off l y s j g k;rw [h _ _ _ j,g,zOA h k];exact hc
  ·cases hc
theorem zQ4 (J:HR E H w) (hf:FrR E w fr a nt) (hg:GR G E w) {v:AV} {H':Heap} {aa:Nat} {o:Oper} {af:XO} {call:Sy.Call} (b0:∀c,o.op≠.call c) (hc:zB1 P o.op=some af)
  (ao:Fresh E nx aa) (h:xoS G call fr H nx af=some (v,H',aa)):Done P E H w nx (execOp a.eval o) v H' aa:=by
 have K:∀{x:Operand} {N:XV} {p:AV},copd x=some N->N.ev G fr=some p->VR E w p (a.eval x):=λ h1 h2=>zH hf hg h1 h2
 have V:∀{s:Sem Value} {r:Value} {D:World},(execOp a.eval o=do pure (.value (←s)))->s.run P w=.ok r D->(execOp a.eval o).run P w=.ok (.value r) D:=λ h1 h2=>by
  rw [h1];simp [h2]
 have uu:∀{s:Sem Unit} {D:World},(execOp a.eval o=do s;pure .skip)->s.run P w=.ok () D->(execOp a.eval o).run P w=.ok .skip D:=λ h1 h2=>by
  rw [h1];simp [h2]
 have ba:∀{x:Operand},(o.op=.move x\/o.op=.assign x)->(∃N,copd x=some N/\af=.vt N)->Done P E H w nx (execOp a.eval o) v H' aa:=by
  rintro x C ⟨N,A,e⟩
  rw [e] at h;simp only [xoS] at h;split at h
  ·rename_i p F;cases h;exact .pure J (by rcases C with C | C <;> simp [execOp,C]) (K A F)
  ·cases h
 have bb:∀{t:TypeId} {m k x:Operand},(execOp a.eval o=do Instr.mapUpdate t (a.eval m) (a.eval k) (a.eval x);pure .skip) →
   (obind (copd m) λ m=>obind (copd k) λ k=>obind (copd x) λ v=>match P.underlying t with
    | some (.map kt _)=>obind (keyT P kt) λ q=>some (XO.wB q.1 q.2 m k v)
    | _=>none)=some af->Done P E H w nx (execOp a.eval o) v H' aa:=by
  intro t m k x S hc;obtain ⟨am,au,hc⟩:=za hc;obtain ⟨ak,b3,hc⟩:=za hc;obtain ⟨N,A,hc⟩:=za hc;split at hc
  ·rename_i kt et B;obtain ⟨q,hq,hc⟩:=za hc;cases hc;unfold keyT at hq;obtain ⟨ks,bj,hq⟩:=za hq;obtain ⟨ag,Y,hq⟩:=za hq;cases hq;simp only [xoS] at h;split at h
   ·rename_i hd vk vx hm hk U;split at h
    ·cases h
    rename_i be;split at h
    ·rename_i es M;split at h
     ·rename_i ca b2;cases h;obtain ⟨D,r1,r2,r3⟩:=zRI (P:=P) (nx:=nx) J B bj Y (K au hm) (K b3 hk) (K A U) be M b2;exact .vw (s:=Instr.mapUpdate t (a.eval m) (a.eval k) (a.eval x)) ⟨D,r1,r2,r3⟩ λ D h=>uu S h
     ·cases h
    ·cases h
   ·cases h
  ·cases hc
 cases C:o.op with
 | move x=>rw [C] at hc;obtain ⟨N,A,hc⟩:=za hc;cases hc;exact ba (.inl C) ⟨N,A,rfl⟩
 | assign x=>rw [C] at hc;obtain ⟨N,A,hc⟩:=za hc;cases hc;exact ba (.inr C) ⟨N,A,rfl⟩
 | pick c x y=>
  rw [C] at hc;obtain ⟨ac,bo,hc⟩:=za hc;obtain ⟨N,A,hc⟩:=za hc;obtain ⟨ay,ar,hc⟩:=za hc;cases hc;simp only [xoS] at h;split at h
  ·rename_i hb;split at h
   ·rename_i p F;cases h;have I:=(K bo hb).of_bool;exact .pure J (by simp [execOp,C,I,asBool]) (K A F)
   ·cases h
  ·rename_i hb;split at h
   ·rename_i p F;cases h;have I:=(K bo hb).of_bool;exact .pure J (by simp [execOp,C,I,asBool]) (K ar F)
   ·cases h
  ·cases h
 | alloc e=>
  rw [C] at hc;obtain ⟨z,hz,hc⟩:=za hc;cases hc;cases h;exact .qR (zQI (P:=P) J (ao nx (QB _) (by omega)) hz) λ r D h=>V (by simp only [execOp,C]) h
 | box e x=>
  rw [C] at hc;obtain ⟨N,A,hc⟩:=za hc;obtain ⟨s,O,hc⟩:=za hc;cases hc;simp only [xoS] at h;split at h
  ·rename_i p F;split at h
   ·rename_i cs az;cases h;exact .qR (zSH (P:=P) (e:=e) J (ao nx (QB _) (by omega)) (K A F) az) λ r D h=>V (by simp only [execOp,C]) h
   ·cases h
  ·cases h
 | build t ps=>
  rw [C] at hc;obtain ⟨z,hz,hc⟩:=za hc;obtain ⟨i,cz,hi,bw,b9,b8,b7,h2,h3⟩:=VR.zero (P:=P) (E:=E) (w:=w) (z:=.bool true) (v:=.bool true) (n:=0) hz;have bk:(zeroValue t).run P w=.ok cz w:=by simp [zeroValue,typeInfo,hi,bw]
  have R:∀{qs:List (Nat×Nat×XV)} {place:Nat->Option (Nat×Nat)},af=.build z qs->cparts place ps.toList=some qs →
    (∀Q,Instr.fill place cz.cells (ps.toList.map λ(i,x)=>(i,a.eval x))=some Q->(Instr.build t (ps.map λ(i,x)=>(i,a.eval x))).run P w=.ok (.agg Q) w)->Done P E H w nx (execOp a.eval o) v H' aa:=by
   intro qs place I e2 e3;rw [I] at h;simp only [xoS] at h;split at h
   ·rename_i cs az;cases h;obtain ⟨Q,r1,r2,r3,r4⟩:=zKA hf hg e2 az h2 h3;exact .qo (s:=Instr.build t (ps.map λ(i,x)=>(i,a.eval x))) J ⟨_,e3 _ r1,VR.qM r2 r3⟩ λ r D h=>V (by simp only [execOp,C]) h
   ·cases h
  split at hc
  ·rename_i fs B;split at hc
   ·rename_i bn;obtain ⟨qs,a6,hc⟩:=za hc;cases hc;obtain ⟨pl,p1,p2,p3⟩:=zMP (P:=P) (w:=w) (l:=fs.toList) λ f hf=>by
     have:=QG.1 bn f hf;exact Option.isSome_iff_exists.1 this
    have bl:cparts (pl[·]?) ps.toList=some qs:=zOA (λ i off sz hi=>by
     obtain ⟨f,hf,hi⟩:=za hi;obtain ⟨s,O,hi⟩:=za hi;cases hi;obtain ⟨s',q1,q2⟩:=p3 i f (by simpa using hf)
     rw [O] at q1;cases q1;exact q2) a6
    refine R rfl bl λ Q aq=>?_
    have hm:(fs.mapM λ f=>do pure (f.offset,←sizeOf f.type):Sem (Array (Nat×Nat))).run P w=.ok pl.toArray w:=by
     rw [Array.mapM_eq_mapM_toList];simp only [Sem.run_map,p1,Result.andThen_ok]
    simp only [Instr.build,Sem.run_bind,bk,run_underlying B,Result.andThen_ok,hm];rw [zOz];simp only [List.getElem?_toArray];rw [aq];rfl
   ·cases hc
  ·rename_i n e B;obtain ⟨s,O,hc⟩:=za hc;obtain ⟨qs,a6,hc⟩:=za hc;cases hc;refine R rfl a6 λ Q aq=>?_
   simp only [Instr.build,Sem.run_bind,bk,run_underlying B,Result.andThen_ok,zA1 O];rw [zOz,aq];rfl
  ·cases hc
 | buildSlice t n ps=>
  rw [C] at hc;simp only [zB1] at hc;split at hc
  ·rename_i e B;obtain ⟨s,O,hc⟩:=za hc;obtain ⟨z,hz,hc⟩:=za hc;cases s with
   | zero=>cases hc
   | succ s=>
    simp only at hc;split at hc
    ·rename_i ab;obtain ⟨qs,a6,hc⟩:=za hc;cases hc;simp only [xoS] at h;split at h
     ·rename_i cs az;cases h;refine .qR (zPI (P:=P) hf hg J (ao nx (QB _) (by omega)) B O hz (Qx _) (QM ab) a6 az) λ r D h=>V (by
       simp only [execOp,C];congr 2;apply Array.ext';simp) h
     ·cases h
    ·cases hc
  ·cases hc
 | insert t m k x=>rw [C] at hc;exact bb (by simp only [execOp,C]) hc
 | mapUpdate t m k x=>rw [C] at hc;exact bb (by simp only [execOp,C]) hc
 | load t x=>
  rw [C] at hc;obtain ⟨N,A,hc⟩:=za hc;obtain ⟨s,O,hc⟩:=za hc;obtain ⟨g,Y,hc⟩:=za hc;cases hc;simp only [xoS] at h;split at h
  ·rename_i p F;split at h
   ·rename_i u hu;cases h;obtain ⟨ad,cv,I,r1,r2⟩:=zNt (P:=P) J (K A F) O Y hu;refine .qo (s:=Instr.loadAt t (a.eval x)) J ⟨cv,?_,r2⟩ λ r D h=>V (by simp only [execOp,C]) h
    rw [I];simp [Instr.loadAt,Instr.sureAddr,r1]
   ·cases h
  ·cases h
 | store t x y=>
  rw [C] at hc;obtain ⟨N,A,hc⟩:=za hc;obtain ⟨ay,ar,hc⟩:=za hc;obtain ⟨s,O,hc⟩:=za hc;cases hc;simp only [xoS] at h;split at h
  ·rename_i hd off p U F;split at h
   ·rename_i st cs M;split at h
    ·rename_i new bp;split at h
     ·rename_i ab;cases h;obtain ⟨I,_⟩:=(K A U).wv;obtain ⟨D,r1,r2,r3⟩:=zQF (P:=P) J (K ar F) O M bp (QM ab) nx;refine .vw (s:=Instr.storeAt t (a.eval x) (a.eval y)) ⟨D,?_,r2,r3⟩ λ D h=>uu (by simp only [execOp,C]) h
      rw [I];simp [Instr.storeAt,Instr.sureAddr,r1]
     ·cases h
    ·cases h
   ·cases h
  ·cases h
 | nilCheck x=>
  rw [C] at hc;obtain ⟨N,A,hc⟩:=za hc;cases hc;simp only [xoS] at h;split at h
  ·rename_i F;cases h;have T:=K A F;have I:=T.wv.1;exact .pure J (by simp only [execOp,C,I];rfl) (I▸T)
  ·rename_i F;cases h;have T:=K A F;obtain ⟨b,c,u,I,_⟩:=T.wI;exact .pure J (by simp only [execOp,C,I];rfl) (I▸T)
  ·rename_i t' v' F;cases h;have T:=K A F;obtain ⟨cv,I⟩:∃cv,a.eval x=.iface t' cv:=by
    generalize a.eval x=cx at T;cases T;exact ⟨_,rfl⟩
   exact .pure J (by simp only [execOp,C,I];rfl) (I▸T)
  ·rename_i F;cases h;have T:=K A F;obtain ⟨u1,u2,I⟩:=T.wE;exact .pure J (by simp only [execOp,C,I];rfl) (I▸T)
  ·cases h
 | binOp op t x y u=>rw [C] at hc;exact zTR J hf hg C hc h
 | unOp op t x=>
  rw [C] at hc;obtain ⟨N,A,hc⟩:=za hc;cases hc;simp only [xoS] at h;split at h
  ·rename_i p F;split at h
   ·rename_i r aj;cases h;exact .qo (s:=Op.unary op (a.eval x)) J (zTO (P:=P) (K A F) aj) λ r D h=>V (by simp only [execOp,C]) h
   ·cases h
  ·cases h
 | convert s d x=>rw [C] at hc;exact zSK J hf hg C hc ao h
 | makeInterface t x=>
  rw [C] at hc;obtain ⟨N,A,hc⟩:=za hc;have R:af=.wM t N->P.concrete t=true->Done P E H w nx (execOp a.eval o) v H' aa:=by
   intro e bm;rw [e] at h;simp only [xoS] at h;split at h
   ·rename_i p F;cases h;exact .qo (s:=Instr.makeInterface t (a.eval x)) J ⟨_,run_makeInterface w t _ bm,.iface _ _ _ (K A F)⟩ λ r D h=>V (by simp only [execOp,C]) h
   ·cases h
  split at hc
  ·cases hc
  ·rename_i d ae B;cases hc;refine R rfl ?_
   unfold Program.concrete;rw [B];cases d <;> first | rfl | exact absurd rfl (ae _)
  ·cases hc
 | makeFunc fn x y=>
  rw [C] at hc;obtain ⟨N,A,hc⟩:=za hc;obtain ⟨ay,ar,hc⟩:=za hc;cases hc;simp only [xoS] at h;split at h
  ·rename_i p q F hq;cases h;have h1:=zD1 hf hg A F;have h2:=zD1 hf hg ar hq;refine .qo (s:=Instr.makeFunc fn (x.map a.eval) (y.map a.eval)) J ⟨_,rfl,.func fn p q _ _ (by have:=h1.1;simpa using this) (by have:=h2.1;simpa using this) (λ i u v hu T=>h1.2 i u v hu (by simpa using T)) (λ i u v hu T=>h2.2 i u v hu (by simpa using T))⟩
    λ r D h=>V (by simp only [execOp,C]) h
  ·cases h
 | makeMap t r=>
  rw [C] at hc;simp only [zB1] at hc;split at hc
  ·cases hc;cases h;exact .qR (zQJ (P:=P) (t:=t) J (ao nx (QB _) (by omega))) λ r D h=>V (by simp only [execOp,C];rfl) h
  ·cases hc
 | makeSlice t x y=>
  rw [C] at hc;simp only [zB1] at hc;split at hc
  ·rename_i e B;obtain ⟨N,A,hc⟩:=za hc;obtain ⟨ay,ar,hc⟩:=za hc;obtain ⟨s,O,hc⟩:=za hc;obtain ⟨n,hn,hc⟩:=za hc;obtain ⟨z,hz,hc⟩:=za hc;cases s with
   | zero=>cases hc
   | succ s=>
    cases hc;simp only [xoS] at h;split at h
    ·rename_i k1 l k2 c hl b4;split at h
     ·rename_i q1;split at h
      ·rename_i q2;split at h
       ·rename_i q3;cases h;have I:=(K A hl).of_int.1;have e2:=(K ar b4).of_int.1;have:=zPe (P:=P) (kl:=k1) (kc:=k2) J (ao nx (QB _) (by omega)) B O hn hz (Qx _) (QM q1) (QM q2) (QM q3)
        exact .qR (s:=Instr.makeSlice t (a.eval x) (a.eval y)) (by rw [I,e2];exact this) λ r D h=>V (by simp only [execOp,C]) h
       ·cases h
      ·cases h
     ·cases h
    ·cases h
  ·cases hc
 | slice t x lo hi mx=>
  rw [C] at hc;obtain ⟨N,A,hc⟩:=za hc;obtain ⟨al,bf,hc⟩:=za hc;obtain ⟨ah,a1,hc⟩:=za hc;obtain ⟨am,au,hc⟩:=za hc;have S:∀r D,(Instr.sliceAt t (a.eval x) (lo.map a.eval) (hi.map a.eval) (mx.map a.eval)).run P w=.ok r D->(execOp a.eval o).run P w=.ok (.value r) D:=λ r D h=>V (by simp only [execOp,C]) h
  have bg:∀{m:Option XV},copdo mx=some m->m=none->mx=none:=λ h1 h2=>by
   cases mx with
   | none=>rfl
   | some m=>subst h2;simp only [copdo] at h1;split at h1 <;> cases h1
  split at hc
  ·rename_i B;split at hc
   ·cases hc;have bh:=bg au rfl;simp only [xoS] at h;split at h
    ·rename_i s l u U hl hh;split at h
     ·rename_i t' I;split at h
      ·rename_i l' e2;cases h;have:=zRJ (P:=P) (w:=w) B (K A U) (zFa hf hg a1 hh) (zFa hf hg bf hl) I e2;rw [bh] at S;exact .qo J this S
      ·cases h
     ·cases h
    ·cases h
   ·cases hc
  ·rename_i e B;obtain ⟨s,O,hc⟩:=za hc;cases s with
   | zero=>cases hc
   | succ s=>
    have R:af=.wu N al ah am (s+1)->(am≠none->ah≠none)->Done P E H w nx (execOp a.eval o) v H' aa:=by
     intro I bt;rw [I] at h;simp only [xoS] at h;split at h
     ·rename_i p l u m U hl hh hm;split at h
      ·rename_i r aj;cases h;refine .qo J (zQH (P:=P) (w:=w) B O (Qx _) (K A U) (zFa hf hg a1 hh) (zFa hf hg bf hl) (zFa hf hg au hm) ?_ aj) S
       intro hn b1;refine bt (λ e=>hn ?_) ?_
       ·rw [bg au e];rfl
       ·cases hi with
        | none=>simp only [copdo] at a1;cases a1;rfl
        | some y=>cases b1
      ·cases h
     ·cases h
    simp only at hc;split at hc
    ·cases hc
    ·rename_i bz;cases hc;refine R rfl λ h1 h2=>?_
     cases am with
     | none=>exact h1 rfl
     | some m=>exact bz m rfl h2
  ·rename_i n e B;obtain ⟨s,O,hc⟩:=za hc;cases s with
   | zero=>cases hc
   | succ s=>
    simp only at hc;split at hc
    ·split at hc
     rotate_left
     ·cases hc
     rename_i bu;cases hc;have bh:=bg au rfl;simp only [xoS] at h;split at h
     ·rename_i hd off l u U hl hh;split at h
      ·rename_i st cs M;split at h
       ·rename_i ab;split at h
        ·rename_i t' I;split at h
         ·rename_i l' e2;cases h;have b6:=QM ab;obtain ⟨q1,q2,q3⟩:=zER (P:=P) (sl:=false) (w:=w) (zFa hf hg a1 hh) (zFa hf hg bf hl) I e2 (QB _) (QB _);obtain ⟨e3,hD⟩:=(K A U).wv;obtain ⟨c,e',f,hb,cb,b5⟩:=CR.wR (J.obj _ (Heap.qh M));have cd:cs.length<=c.size:=by have:=b5.1;simpa using this
          refine .qo (s:=Instr.sliceAt t (a.eval x) (lo.map a.eval) (hi.map a.eval) (mx.map a.eval)) J ⟨.slice (some (if n=l' then ⟨E.ρ hd,off,none⟩ else (⟨E.ρ hd,off,none⟩:Addr).add (l'*(s+1)))) (t'-l') (n-l'),?_,?_⟩ S
          ·rw [e3,bh];simp [Instr.sliceAt,run_underlying B,Instr.sureAddr,q1,zA1 O]
          ·by_cases bq:n=l'
           ·rw [if_pos bq];have e5:t'-l'=0:=by omega
            have e6:n-l'=0:=by omega
            rw [e5,e6];exact .wc _ _ _ _ _
           ·rw [if_neg bq,zBw];have cc:=QM bu;refine .row _ _ _ _ _ _ _ hD (by omega) (by omega) (Qx _) (QB _) (λ _=>rfl) ⟨c,e',f,hb,?_⟩
            have:l'*(s+1)+(n-l')*(s+1)=n*(s+1):=by rw [←Nat.add_mul];congr 1;omega
            omega
         ·cases h
        ·cases h
       ·cases h
      ·cases h
     ·cases h
    ·cases hc
  ·cases hc
 | fieldAddr t x i=>
  rw [C] at hc;obtain ⟨N,A,hc⟩:=za hc;obtain ⟨fs,X,hc⟩:=za hc;obtain ⟨f,a8,hc⟩:=za hc;obtain ⟨s,O,hc⟩:=za hc;have B:P.underlying t=some (.struct fs):=by
   unfold cfields at X;split at X
   ·cases X;assumption
   ·cases X
  cases s with
  | zero=>cases hc
  | succ s=>
   cases hc;simp only [xoS] at h;split at h
   ·rename_i hd off F;cases h;obtain ⟨I,hD⟩:=(K A F).wv;refine .qo (s:=Instr.fieldAt t (a.eval x) i) J ⟨_,by rw [I];exact zML (P:=P) (w:=w) B a8 O,.ptr _ _ hD⟩ λ r D h=>V (by simp only [execOp,C]) h
   ·rename_i e off F;cases h;obtain ⟨b,c,u,I,q1,q2,q3,q4⟩:=(K A F).wI;refine .qo (s:=Instr.fieldAt t (a.eval x) i) J ⟨_,by rw [I];exact zML (P:=P) (w:=w) B a8 O,?_⟩ λ r D h=>V (by simp only [execOp,C]) h
    rw [Nat.add_assoc];exact .qe e _ b c u q1 q2 q3 q4
   ·cases h
 | field t x i=>
  rw [C] at hc;obtain ⟨N,A,hc⟩:=za hc;obtain ⟨fs,X,hc⟩:=za hc;obtain ⟨f,a8,hc⟩:=za hc;obtain ⟨s,O,hc⟩:=za hc;obtain ⟨g,Y,hc⟩:=za hc;cases hc;have B:P.underlying t=some (.struct fs):=by
   unfold cfields at X;split at X
   ·cases X;assumption
   ·cases X
  simp only [xoS] at h;split at h
  ·rename_i cs F;split at h
   ·rename_i r aj;cases h;obtain ⟨vs,I,q1,q2⟩:=(K A F).qV;obtain ⟨cv,r1,r2⟩:=zNs (P:=P) q1 q2 O Y aj;refine .qo (s:=Instr.field t (a.eval x) i) J ⟨cv,?_,r2⟩ λ r D h=>V (by simp only [execOp,C]) h
    rw [I];simp [Instr.field,run_underlying B,a8,asAgg,r1]
   ·cases h
  ·cases h
 | indexAddr t x i=>
  rw [C] at hc;obtain ⟨N,A,hc⟩:=za hc;obtain ⟨ai,W,hc⟩:=za hc;have S:∀r D,(Instr.indexAt t (a.eval x) (a.eval i)).run P w=.ok r D->(execOp a.eval o).run P w=.ok (.value r) D:=λ r D h=>V (by simp only [execOp,C]) h
  split at hc
  ·rename_i e B;obtain ⟨s,O,hc⟩:=za hc;cases s with
   | zero=>cases hc
   | succ s=>
    cases hc;simp only [xoS] at h;split at h
    ·rename_i bc es p U F;split at h
     ·rename_i bi;split at h
      ·rename_i y hy;cases h;exact .qo J (zLr (P:=P) B O (K A U) (K W F) (.inl ⟨bc,es,y,rfl,bi,hy,rfl⟩)) S
      ·cases h
     ·cases h
    ·rename_i hd off len bc cp ex p U F;split at h
     ·rename_i bi;split at h
      ·rename_i y hy;cases h;exact .qo J (zLr (P:=P) B O (K A U) (K W F) (.inr ⟨hd,off,len,bc,cp,ex,y,rfl,bi,hy,rfl⟩)) S
      ·cases h
     ·cases h
    ·cases h
  ·rename_i n e B;obtain ⟨s,O,hc⟩:=za hc;cases s with
   | zero=>cases hc
   | succ s=>
    cases hc;simp only [xoS] at h;split at h
    ·rename_i hd off p U F;split at h
     ·rename_i j hj;cases h;obtain ⟨I,hD⟩:=(K A U).wv;refine .qo (s:=Instr.indexAt t (a.eval x) (a.eval i)) J ⟨_,by rw [I];exact zLq (P:=P) B O (K W F) hj,?_⟩ S
      rw [zBw];exact .ptr _ _ hD
     ·cases h
    ·rename_i e' off p U F;split at h
     ·rename_i j hj;cases h;obtain ⟨b,c,u,I,q1,q2,q3,q4⟩:=(K A U).wI;refine .qo (s:=Instr.indexAt t (a.eval x) (a.eval i)) J ⟨_,by rw [I];exact zLq (P:=P) B O (K W F) hj,?_⟩ S
      rw [zBw,Nat.add_assoc];exact .qe e' _ b c u q1 q2 q3 q4
     ·cases h
    ·cases h
  ·cases hc
 | index t x i=>
  rw [C] at hc;obtain ⟨N,A,hc⟩:=za hc;obtain ⟨ai,W,hc⟩:=za hc;have S:∀r D,(Instr.index t (a.eval x) (a.eval i)).run P w=.ok r D->(execOp a.eval o).run P w=.ok (.value r) D:=λ r D h=>V (by simp only [execOp,C]) h
  split at hc
  ·rename_i B;cases hc;simp only [xoS] at h;split at h
   ·rename_i s k n U hn;split at h
    ·rename_i b hb;cases h;obtain ⟨I,_⟩:=(K W hn).of_int;refine .qo (s:=Instr.index t (a.eval x) (a.eval i)) J ?_ S
     rw [I];exact zRK (P:=P) B (K A U) hb
    ·cases h
   ·cases h
  ·rename_i n e B;obtain ⟨s,O,hc⟩:=za hc;obtain ⟨g,Y,hc⟩:=za hc;cases hc;simp only [xoS] at h;split at h
   ·rename_i cs p U F;split at h
    ·rename_i j hj;split at h
     ·rename_i r aj;cases h;exact .qo J (zRL (P:=P) B O Y (K A U) (K W F) hj aj) S
     ·cases h
    ·cases h
   ·cases h
  ·cases hc
 | lookup t x i ok=>
  rw [C] at hc;obtain ⟨N,A,hc⟩:=za hc;obtain ⟨ai,W,hc⟩:=za hc;split at hc
  ·rename_i kt et B;obtain ⟨q,hq,hc⟩:=za hc;obtain ⟨z,hz,hc⟩:=za hc;cases hc;unfold keyT at hq;obtain ⟨ks,bj,hq⟩:=za hq;obtain ⟨ag,Y,hq⟩:=za hq;cases hq;simp only [xoS] at h;split at h
   ·rename_i m k hm hk;split at h
    ·cases h
    rename_i be;have R:=λ hh=>zPH (P:=P) (ok:=ok) (v:=v) J B bj Y hz (K A hm) (K W hk) be hh
    have S:∀r D,(Instr.lookup t (a.eval x) (a.eval i) ok).run P w=.ok r D->(execOp a.eval o).run P w=.ok (.value r) D:=λ r D h=>V (by simp only [execOp,C]) h
    split at h
    ·cases h;exact .qo J (R (.inl ⟨rfl,rfl⟩)) S
    ·split at h
     ·rename_i es M;split at h
      ·rename_i u hu;cases h;exact .qo J (R (.inr ⟨_,es,some u,rfl,M,hu,rfl⟩)) S
      ·rename_i hu;cases h;exact .qo J (R (.inr ⟨_,es,none,rfl,M,hu,rfl⟩)) S
      ·cases h
     ·cases h
    ·cases h
   ·cases h
  ·cases hc
 | range t x=>
  rw [C] at hc;obtain ⟨N,A,hc⟩:=za hc;split at hc
  ·rename_i B;cases hc;simp only [xoS] at h;split at h
   ·rename_i s O;cases h;exact .qR (zRM (P:=P) J (ao nx (QB _) (by omega)) (K A O) B) λ r D h=>V (by simp only [execOp,C]) h
   ·cases h
  ·cases hc
 | next it b=>
  rw [C] at hc;cases b with
  | false=>cases hc
  | true=>
   obtain ⟨N,A,hc⟩:=za hc;cases hc;simp only [xoS] at h;split at h
   ·rename_i hd F;obtain ⟨I,hD⟩:=(K A F).wv;have S:∀r D,(Instr.next (.pointer (some ⟨E.ρ hd,0,none⟩)) true o.type).run P w=.ok r D->(execOp a.eval o).run P w=.ok (.value r) D:=λ r D h=>V (by simp only [execOp,C,I]) h
    split at h
    ·rename_i s pos M;split at h
     ·rename_i ab;split at h
      ·rename_i aw;split at h
       ·rename_i b hb;cases h;exact .qR (zMN (P:=P) J hD M (QM ab) (.inl ⟨by rw [Ql] at aw;exact aw,b,hb,rfl,rfl⟩)) S
       ·cases h
      ·rename_i aw;cases h;exact .qR (zMN (P:=P) J hD M (QM ab) (.inr ⟨(λ hh=>by
        have:Nat.blt pos s.length=true:=by rw [Ql];exact hh
        rw [this] at aw;cases aw),rfl,rfl⟩)) S
     ·cases h
    ·cases h
   ·cases h
 | typeAssert x t u ok=>
  rw [C] at hc;obtain ⟨N,A,hc⟩:=za hc;obtain ⟨z,hz,hc⟩:=za hc;obtain ⟨cz,z1,z2⟩:=zMJ (w:=w) hz;have S:∀r D,(Instr.typeAssert (a.eval x) t u ok).run P w=.ok r D->(execOp a.eval o).run P w=.ok (.value r) D:=λ r D h=>V (by simp only [execOp,C]) h
  have R:∀d,P.underlying u=some d->(∀ms,d≠.interface ms)->af=.vF N u ok z->Done P E H w nx (execOp a.eval o) v H' aa:=by
   intro d B ae I;rw [I] at h;simp only [xoS] at h;split at h
   ·rename_i t' y F;have T:=K A F;obtain ⟨cy,e2,hy⟩:∃cy,a.eval x=.iface t' cy/\VR E w y cy:=by
     generalize a.eval x=cx at T;cases T;exact ⟨_,rfl,by assumption⟩
    split at h
    ·rename_i a7;have:=zb a7;subst this;cases h;refine .qo (s:=Instr.typeAssert (a.eval x) t t' ok) J ?_ S
     rw [e2];cases ok
     ·refine ⟨cy,?_,hy⟩
      cases d <;> first | exact absurd rfl (ae _) | simp [Instr.typeAssert,run_underlying B]
     ·refine ⟨.tuple #[cy,.bool true],?_,zIM hy⟩
      cases d <;> first | exact absurd rfl (ae _) | simp [Instr.typeAssert,run_underlying B]
    ·rename_i a7;split at h
     ·cases h;have bs:¬t'=u:=λ e=>by rw [e,Nat.beq_refl] at a7;cases a7
      refine .qo (s:=Instr.typeAssert (a.eval x) t u true) J ⟨.tuple #[cz,.bool false],?_,zIM z2⟩ S
      rw [e2];cases d <;> first | exact absurd rfl (ae _) | simp [Instr.typeAssert,run_underlying B,bs,z1]
     ·cases h
   ·rename_i F;have T:=K A F;have e2:a.eval x=.nilIface:=by
     generalize a.eval x=cx at T;cases T;rfl
    split at h
    ·cases h;refine .qo (s:=Instr.typeAssert (a.eval x) t u true) J ⟨.tuple #[cz,.bool false],?_,zIM z2⟩ S
     rw [e2];cases d <;> first | exact absurd rfl (ae _) | simp [Instr.typeAssert,run_underlying B,z1]
    ·cases h
   ·cases h
  split at hc
  ·cases hc
  ·rename_i d ae B;cases hc;exact R d B (λ ms e=>ae ms e) rfl
  ·cases hc
 | extract t i=>
  rw [C] at hc;obtain ⟨N,A,hc⟩:=za hc;cases hc;simp only [xoS] at h;split at h
  ·rename_i vs F;split at h
   ·rename_i u hu;cases h;obtain ⟨us,I,T⟩:=(K A F).w8;obtain ⟨cv,r1,r2⟩:=T.getElem? hu;have bv:us[i]? = some cv:=by simpa using r1
    refine .qo (s:=Instr.extract (a.eval t) i) J ⟨cv,?_,r2⟩ λ r D h=>V (by simp only [execOp,C]) h
    rw [I];simp [Instr.extract,bv]
   ·cases h
  ·cases h
 | call c=>exact absurd C (b0 c)
 | _=>rw [C] at hc;cases hc
end
end Go.Sy
namespace Go.Sy
def FnT (P:Program) (G:Cx) (f:FuncId) (args:List AV) (H:Heap) (nx:Nat) (v:AV) (H':Heap) (c:Nat):Prop:=
 ∀(E:Env) (w:World) (b:Array Value),HR E H w->VRs E w args b.toList->GR G E w->Fresh E nx c →
  Calls P f b w λ e h=>∃j g,e=.returned j/\HR g H' h/\Tr E H w g H' h nx c/\VR g h v j
def Enters (P:Program) (f:FuncId):Prop:=∃fn b,P.funcs[f]? = some fn/\fn.body=some b/\(fn.name == "runtime.NumGoroutine")=false
def zFb (P:Program) (G:Cx) (call:Sy.Call):Prop:=∀f args H nx v c b,call f args H nx=some (v,c,b)->Enters P f/\nx<=b/\FnT P G f args H nx v c b
def zBe (P:Program) (G:Cx):Prop:=∀t m f,G.uf t m=some f->∀(v:Value) (w:World),(method (P.types.size+Made.depth) t v m).run P w=.ok (f,v) w
theorem zET {P:Program} {G:Cx}:zFb P G ze:=λ _ _ _ _ _ _ _ h=>by cases h
section
variable {P:Program} {G:Cx} {E:Env} {w:World} {fr:Fr} {a:Act} {nt:Nat} {H:Heap} {nx:Nat}
def OpT (P:Program) (o:Oper) (a:Act) (E:Env) (H:Heap) (w:World) (nx:Nat) (v:AV) (H':Heap) (c:Nat):Prop:=
 ∀(next:Act->World->Prop) (Q:Exit->Act->World->Prop),(∀f e b,HR e H' b->Tr E H w e H' b nx c->VR e b v f->next (a.put o.dst f) b)->o.wp P a w next Q
theorem OpT.w6 {o:Oper} {v:AV} {H':Heap} {b:Nat} (h:Done P E H w nx (execOp a.eval o) v H' b):OpT P o a E H w nx v H' b:=by
 intro next Q l;obtain ⟨n,e,f,j,g,k,c | ⟨c,m⟩⟩:=h
 ·unfold Oper.wp;rw [c];exact l n e f j g k
 ·unfold Oper.wp;rw [c];subst m;exact l _ e f j g k
theorem OpT.vy {o:Oper} {v:AV} {H':Heap} {b:Nat} {f:FuncId} {args:List AV} {cargs:Array Value} (q:HR E H w) (l:GR G E w) (c:Fresh E nx b) (t:VRs E w args cargs.toList) (k:FnT P G f args H nx v H' b)
  (u:(execOp a.eval o).run P w=.ok (.enter f cargs) w):OpT P o a E H w nx v H' b:=by
 intro next Q s;unfold Oper.wp;rw [u];refine (k E w cargs q t l c).mono λ e g h=>?_
 obtain ⟨m,n,rfl,p,j,r⟩:=h;exact s m n g p j r
theorem zIT {f:FuncId} {args:Array Value} (h:Enters P f):(callFunc f args).run P w=.ok (.enter f args) w:=by
 obtain ⟨fn,b,g,c,j⟩:=h;have e:¬fn.name = "runtime.NumGoroutine":=by simpa using j
 simp [callFunc,g,c,e]
theorem zQ5 (c:UInt8):∀(l:List UInt8) (i:Nat),bidx c.toNat i (l.map UInt8.toNat)=if Lib.indexByte l c=-1 then -1 else Lib.indexByte l c+(i:Int)
 | [],i=>by simp [bidx,Lib.indexByte]
 | a::l,i=>by
  simp only [Qd,bidx,Lib.indexByte];by_cases e:a=c
  ·subst e;have:Nat.beq a.toNat a.toNat=true:=Nat.beq_refl _;simp [this]
  ·have k:Nat.beq a.toNat c.toNat=false:=by
    cases h:Nat.beq a.toNat c.toNat with
    | false=>rfl
    | true=>exact absurd (UInt8.toNat_inj.1 (zb h)) e
   have g:(a==c)=false:=by simpa using e
   have n:=Lib.indexByte_ge l c;have f:=zQ5 c l (i+1);simp only [k,g];rw [f];by_cases b:Lib.indexByte l c=-1
   ·simp [b]
   ·have m:(Lib.indexByte l c==-1)=false:=by simpa using b
    have j:¬(Lib.indexByte l c+1=-1):=by omega
    simp [b,j];omega
theorem zLu (c:UInt8):∀l:List UInt8,Lib.indexByte l c<l.length\/Lib.indexByte l c=-1
 | []=>.inr rfl
 | a::l=>by
  simp only [Lib.indexByte,QK];split
  ·left;omega
  ·split
   ·exact .inr rfl
   ·rename_i h;have e:¬Lib.indexByte l c=-1:=by simpa using h
    rcases zLu c l with b | b
    ·left;omega
    ·exact absurd b e
theorem zQ6 (c:UInt8):∀l:List UInt8,bcnt c.toNat (l.map UInt8.toNat)=Lib.countByte l c
 | []=>rfl
 | a::l=>by
  have b:=zQ6 c l;simp only [Qd,bcnt,Lib.countByte,List.count_cons] at b ⊢;by_cases e:a=c
  ·subst e;have:Nat.beq a.toNat a.toNat=true:=Nat.beq_refl _;simp [this,b]
  ·have f:Nat.beq a.toNat c.toNat=false:=by
    cases h:Nat.beq a.toNat c.toNat with
    | false=>rfl
    | true=>exact absurd (UInt8.toNat_inj.1 (zb h)) e
   simp [f,b,e]
theorem zNz {fn:Func} (h:fn.name = "internal/bytealg.IndexByteString") (ho:fn.origin = ""):Extern.findNext fn=none/\Extern.find fn=some Extern.BytealgIndexByte.indexByte:=by
 have c:Extern.allGenericRows.lookup "internal/bytealg.IndexByteString"=none:=by kernel_rfl
 have g:Extern.allTypedRows.lookup "internal/bytealg.IndexByteString"=none:=by kernel_rfl
 have e:Extern.allRows.lookup "internal/bytealg.IndexByteString"=some Extern.BytealgIndexByte.indexByte:=by kernel_rfl
 have f:Extern.allNextRows.lookup "internal/bytealg.IndexByteString"=none:=by kernel_rfl
 have b:Extern.allNextRows.lookup ""=none:=by kernel_rfl
 exact ⟨by simp only [Extern.findNext,h,ho,f,b];rfl,by simp only [Extern.find,h,c,g,e];rfl⟩
theorem zNA {fn:Func} (h:fn.name = "internal/bytealg.CountString") (ho:fn.origin = ""):Extern.findNext fn=none/\Extern.find fn=some Extern.BytealgCount.count:=by
 have c:Extern.allGenericRows.lookup "internal/bytealg.CountString"=none:=by kernel_rfl
 have g:Extern.allTypedRows.lookup "internal/bytealg.CountString"=none:=by kernel_rfl
 have e:Extern.allRows.lookup "internal/bytealg.CountString"=some Extern.BytealgCount.count:=by kernel_rfl
 have f:Extern.allNextRows.lookup "internal/bytealg.CountString"=none:=by kernel_rfl
 have b:Extern.allNextRows.lookup ""=none:=by kernel_rfl
 exact ⟨by simp only [Extern.findNext,h,ho,f,b];rfl,by simp only [Extern.find,h,c,g,e];rfl⟩
theorem zQ7 {b:Nat} (h:has .u8 (Int.ofNat b)):((Int.ofNat b).toNat.toUInt8).toNat=b:=by
 have c:(Int.ofNat b)<=255:=h.2;have e:b<=255:=by
  have:(b:Int)<=255:=c;omega
 show (b.toUInt8).toNat=b
 rw [Nat.toUInt8_eq,UInt8.toNat_ofNat'];omega
theorem zPK (R:HR E H w) (X:FrR E w fr a nt) (U:GR G E w) {v:AV} {H':Heap} {D:Nat} {o:Oper} {f:FuncId} {fn:Func} {args:Array Operand} {ts:Array TypeId} {as:List XV} {J:XO} {call:Sy.Call}
  (ho:o.op=.call ⟨.value (.func f),args,ts⟩) (Q:P.funcs[f]? = some fn) (T:fn.body=none) (C:copds args.toList=some as) (hc:extK fn as=some J) (h:xoS G call fr H nx J=some (v,H',D)):
  Done P E H w nx (execOp a.eval o) v H' D:=by
 have O:fn.body.isNone=true:=by rw [T];rfl
 unfold extK at hc;split at hc
 rotate_left
 ·cases hc
 rename_i x y k;have k:fn.origin = "":=by simpa using k
 have m:∀{p q:AV} {e:Array Value->Sem Value},x.ev G fr=some p->y.ev G fr=some q->(fn.name == "runtime.NumGoroutine")=false->Extern.findNext fn=none->Extern.find fn=some e →
   ∃t n,VR E w p t/\VR E w q n/\∀r M,(e #[t,n]).run P w=.ok r M->(execOp a.eval o).run P w=.ok (.value r) M:=by
  intro p q e W V hn B S;have I:=zD1 X U C (show evs G fr [x,y]=some [p,q] by simp only [evs,W,V])
  obtain ⟨t,l1,K,v1,I⟩:=I.of_cons;obtain ⟨n,l2,rfl,v2,I⟩:=I.of_cons;rw [I.of_nil] at K;refine ⟨t,n,v1,v2,λ r M F=>?_⟩
  have ea:args.map a.eval=#[t,n]:=by
   apply Array.ext'
   simpa using K
  simp only [execOp,ho,resolve,Sem.run_bind,ea,Act.eval,Deferred.ofValue,Sem.run_pure,Result.andThen_ok,invoke];have:=run_callFunc_extern (P:=P) Q hn O B S #[t,n] w;rw [F] at this
  simpa using this
 split at hc
 ·rename_i c;have c:fn.name = "internal/bytealg.IndexByteString":=by simpa using c
  cases hc;simp only [xoS] at h;split at h
  ·rename_i s b N u;cases h;obtain ⟨t,n,v1,v2,F⟩:=m N u (by rw [c];rfl) (zNz c k).1 (zNz c k).2
   obtain ⟨j,rfl,l,g⟩:=v1.qX;obtain ⟨rfl,z⟩:=v2.of_int;refine .pure R (F _ _ (Lib.run_indexByteString j _ w)) ?_
   have A:=zQ5 ((Int.ofNat b).toNat.toUInt8) j.data.toList 0;rw [zQ7 z,l] at A;have K:bidx b 0 s=Lib.indexByte j.data.toList ((Int.ofNat b).toNat.toUInt8):=by
    rw [A];split
    ·rename_i B;exact B.symm
    ·simp
   rw [K];refine .int _ _ ⟨?_,?_⟩
   ·have:=Lib.indexByte_ge j.data.toList ((Int.ofNat b).toNat.toUInt8);show (-9223372036854775808:Int)<=_
    omega
   ·show _<=(9223372036854775807:Int)
    have Y:j.data.toList.length<=9223372036854775807:=by rw [←l] at g;simpa [zc] using g
    rcases zLu ((Int.ofNat b).toNat.toUInt8) j.data.toList with B | B <;> omega
  ·cases h
 ·split at hc
  ·rename_i c;have c:fn.name = "internal/bytealg.CountString":=by simpa using c
   cases hc;simp only [xoS] at h;split at h
   ·rename_i s b N u;cases h;obtain ⟨t,n,v1,v2,F⟩:=m N u (by rw [c];rfl) (zNA c k).1 (zNA c k).2
    obtain ⟨j,rfl,l,g⟩:=v1.qX;obtain ⟨rfl,z⟩:=v2.of_int;refine .pure R (F _ _ (Lib.run_countString j _ w)) ?_
    have A:=zQ6 ((Int.ofNat b).toNat.toUInt8) j.data.toList;rw [zQ7 z,l] at A;rw [A];refine .int _ _ ⟨?_,?_⟩
    ·show (-9223372036854775808:Int)<=((Lib.countByte j.data.toList ((Int.ofNat b).toNat.toUInt8):Nat):Int)
     omega
    ·show ((Lib.countByte j.data.toList ((Int.ofNat b).toNat.toUInt8):Nat):Int)<=(9223372036854775807:Int)
     have Y:j.data.toList.length<=9223372036854775807:=by rw [←l] at g;simpa [zc] using g
     have:Lib.countByte j.data.toList ((Int.ofNat b).toNat.toUInt8)<=j.data.toList.length:=List.count_le_length;omega
   ·cases h
  ·cases hc
theorem zSL (J:HR E H w) (I:FrR E w fr a nt) (s:GR G E w) (hm:zBe P G) {v:AV} {H':Heap} {l:Nat} {o:Oper} {c:Go.Call} {C:XO} {call:Sy.Call} (p:zFb P G call) (ho:o.op=.call c) (hc:zB1 P o.op=some C)
  (B:Fresh E nx l) (h:xoS G call fr H nx C=some (v,H',l)):OpT P o a E H w nx v H' l:=by
 obtain ⟨callee,args,ts⟩:=c;rw [ho] at hc;have y:∀{x:Operand} {ax:XV} {as:List XV} {f:Nat} {first k D:List AV},callee=.value x->copd x=some ax->copds args.toList=some as->ax.ev G fr=some (.func (.func f) first k)->evs G fr as=some D →
   call f (first++D++k) H nx=some (v,H',l)->OpT P o a E H w nx v H' l:=by
  intro x ax as f first k D N Q e3 e4 e5 e6;subst N;obtain ⟨O,_,c2⟩:=p _ _ _ _ _ _ _ e6;have q:=zH I s Q e4;generalize z:a.eval x=cx at q;cases q with
  | func _ _ _ Y vc V X rf rc=>
   have j:=zD1 I s e3 e5;have h1:VRs E w first Y.toList:=⟨by simpa using V,λ i x v hx q=>rf i x v hx (by simpa using q)⟩
   have h2:VRs E w k vc.toList:=⟨by simpa using X,λ i x v hx q=>rc i x v hx (by simpa using q)⟩
   refine .vy (cargs:=Y++args.map a.eval++vc) J s B (by simpa using (h1.append j).append h2) c2 ?_
   simp only [execOp,ho,resolve,Sem.run_bind,z,Deferred.ofValue,Sem.run_pure,Result.andThen_ok,invoke];exact zIT O
 cases callee with
 | builtin b=>exact .w6 (zLt J I s ho hc B h)
 | value x=>
  have gen:∀{hx:∃ax,copd x=some ax/\∃as,copds args.toList=some as/\C=.qL ax as},OpT P o a E H w nx v H' l:=by
   rintro ⟨ax,A,as,has,e⟩
   rw [e] at h;simp only [xoS] at h;split at h
   ·rename_i fv D U n;unfold applyf at h;split at h
    ·exact y rfl A has U n h
    ·cases h
   ·cases h
  cases x with
  | func f=>
   simp only [zB1] at hc;split at hc
   ·rename_i fn R;split at hc
    ·obtain ⟨as,has,hc⟩:=za hc;cases hc;simp only [xoS] at h;split at h
     ·rename_i D n;exact y (x:=.func f) (ax:=.c (.func (.func f) [] [])) rfl rfl has rfl n (by simpa using h)
     ·cases h
    ·rename_i W;obtain ⟨as,has,hc⟩:=za hc;exact .w6 (zPK J I s ho R W has hc h)
   ·cases hc
  | tmp t=>
   obtain ⟨as,has,hc⟩:=za hc;cases hc;exact gen (hx:=⟨_,rfl,as,has,rfl⟩)
  | const aa=>
   obtain ⟨ax,A,hc⟩:=za hc;obtain ⟨as,has,hc⟩:=za hc;cases hc;exact gen (hx:=⟨ax,A,as,has,rfl⟩)
  | global g=>
   obtain ⟨as,has,hc⟩:=za hc;cases hc;exact gen (hx:=⟨_,rfl,as,has,rfl⟩)
 | invoke r m=>
  obtain ⟨ar,M,hc⟩:=za hc;obtain ⟨as,has,hc⟩:=za hc;cases hc;simp only [xoS] at h;split at h
  ·rename_i t u D K n;split at h
   ·rename_i f T;obtain ⟨O,_,c2⟩:=p _ _ _ _ _ _ _ h;have q:=zH I s M K;generalize z:a.eval r=cx at q;cases q with
    | iface _ _ F hu=>
     have j:=zD1 I s has n;refine .vy (cargs:=#[F]++args.map a.eval) J s B (by simpa using VRs.cons hu j) c2 ?_
     have S:=hm t m f T F w;simp only [execOp,ho,resolve,Sem.run_bind,z,Sem.run_pure,Result.andThen_ok,invoke];have N:(#[Value.iface t F]++args.map a.eval)[0]? = some (.iface t F):=by
      simp [Array.getElem?_append]
     have Q:(#[Value.iface t F]++args.map a.eval).extract 1 (#[Value.iface t F]++args.map a.eval).size=args.map a.eval:=by
      apply Array.ext';simp [List.take_of_length_le]
     simp only [N,Q,callMethod,Sem.run_bind,run_program,Result.andThen_ok,S];exact zIT O
   ·cases h
  ·cases h
theorem zGk (l:HR E H w) (k:FrR E w fr a nt) (m:GR G E w) (hm:zBe P G) {v:AV} {H':Heap} {b:Nat} {o:Oper} {j:XO} {call:Sy.Call} (e:zFb P G call) (hc:zB1 P o.op=some j)
  (g:Fresh E nx b) (h:xoS G call fr H nx j=some (v,H',b)):OpT P o a E H w nx v H' b:=by
 by_cases f:∃c,o.op=.call c
 ·obtain ⟨c,n⟩:=f;exact zSL l k m hm e n hc g h
 ·exact .w6 (zQ4 l k m (λ c h=>f ⟨c,h⟩) hc g h)
end
end Go.Sy
namespace Go.Sy
def zEG (call:Call):Prop:=∀f args H nx v c b,call f args H nx=some (v,c,b)->nx<=b
theorem zFb.le {P:Program} {G:Cx} {call:Call} (h:zFb P G call):zEG call:=λ f args H nx v c b e=>(h f args H nx v c b e).2.1
theorem zRP {H:Heap} {nx:Nat} {s y:AV} {sz bytes:Nat} {v:AV} {H':Heap} {b:Nat} (h:xappend H nx s y sz bytes=some (v,H',b)):nx<=b:=by
 unfold xappend at h
 repeat' split at h
 all_goals first
  | (cases h;done)
  | (cases h;exact QB _)
  | (cases h;exact QY _)
theorem zTS {H:Heap} {nx:Nat} {d y:AV} {sz:Nat} {v:AV} {H':Heap} {b:Nat} (h:xcopy H nx d y sz=some (v,H',b)):nx<=b:=by
 unfold xcopy at h
 repeat' split at h
 all_goals first
  | (cases h;done)
  | (cases h;exact QB _)
set_option maxHeartbeats 1000000 in
theorem zRQ {G:Cx} {call:Call} {fr:Fr} {H:Heap} {nx:Nat} {o:XO} {v:AV} {H':Heap} {b:Nat} (hc:zEG call) (h:xoS G call fr H nx o=some (v,H',b)):nx<=b:=by
 cases o <;> simp only [xoS] at h
 all_goals (repeat' split at h)
 all_goals first
  | (cases h;done)
  | (cases h;exact QB _)
  | (cases h;exact QY _)
  | exact zRP h
  | exact zTS h
  | exact hc _ _ _ _ _ _ _ h
  | (unfold applyf at h;split at h <;> first | exact hc _ _ _ _ _ _ _ h | (cases h;done))
theorem zQ8 {G:Cx} {call:Call} {fr:Fr} {H:Heap} {nx:Nat} {o:XO} {v:AV} {H':Heap} {b:Nat} (c:zX o=1) (h:xoS G call fr H nx o=some (v,H',b)):H'=H/\b=nx:=by
 cases o <;> first | (cases c;done) | skip
 all_goals simp only [xoS] at h
 all_goals (repeat' split at h)
 all_goals first
  | (cases h;done)
  | (cases h;exact ⟨rfl,rfl⟩)
theorem zNB {f:AV->AV->Bool} (c:∀a b,f a b=true->a=b):∀{x y:List AV},allb f x y=true->x=y
 | [],[],_=>rfl
 | a::x,b::y,h=>by
  simp only [allb] at h;split at h
  ·rename_i e;rw [c a b e,zNB c h]
  ·cases h
 | [],_::_,h=>by simp [allb] at h
 | _::_,[],h=>by simp [allb] at h
theorem zOB:∀(d:Nat) (a b:AV),wC d a b=true->a=b:=by
 intro d
 induction d with
 | zero=>intro a b h;simp [wC] at h
 | succ d f=>
  intro a b h;have c:∀{x y:List AV},allb (wC d) x y=true->x=y:=zNB f;unfold wC at h;split at h
  case h_2=>
   split at h
   ·rename_i e;have:=zGh e;have h:=eq_of_beq h;subst this;subst h;rfl
   ·cases h
  case h_3=>rw [zEc h]
  all_goals first
   | (cases h;done)
   | rfl
   | (simp only [QA,beq_iff_eq] at h)
   | skip
  ·rw [h]
  ·rw [zb h.1,zb h.2]
  ·rw [f _ _ h.1,zb h.2]
  ·rw [zb h.1,c h.2]
  ·obtain ⟨⟨⟨⟨⟨l,j⟩,n⟩,k⟩,m⟩,g⟩:=h;rw [zb l,zb j,zb n,zb k,zb m,g]
  ·rw [zb h]
  ·rw [zb h.1.1,c h.1.2,c h.2]
  ·rw [zb h.1,f _ _ h.2]
  ·rw [c h]
  ·rw [c h]
  ·rw [zb h]
structure vG (E:Env) (H:Heap) (w:World) (E':Env) (H':Heap) (w':World) (N:Nat->Prop):Prop where
 agree:∀h,E.D h->E'.ρ h=E.ρ h
 qC:∀h,E'.D h↔E.D h\/N h
 qG:∀x,E.Z x->E'.Z x
 qN:∀x,E'.Z x->E.Z x\/(∃p∈H,E.ρ p.1=x)\/w.heap.size<=x
 own:∀p∈H',(∃q∈H,E.ρ q.1=E'.ρ p.1)\/w.heap.size<=E'.ρ p.1
 tape:w'.tape=w.tape
 os:w'.os=w.os
 output:w'.output=w.output
 size:w.heap.size<=w'.heap.size
 wa:∀x,x<w.heap.size->(∀p∈H,E.ρ p.1≠x)->w'.heap[x]? = w.heap[x]?
 qn:Shapes w w'
 sig:E'.σ=E.σ:=by rfl
theorem vG.step {E:Env} {H:Heap} {w:World} {r:Env} {m:Heap} {l:World} {E2:Env} {H2:Heap} {s:World} {N n:Nat->Prop} {a b:Nat}
  (h:vG E H w r m l N) (k:Tr r m l E2 H2 s a b) (u:∀h,n h↔N h\/(a<=h/\h<b)):vG E H w E2 H2 s n where
 agree x hx:=(k.agree x ((h.qC x).2 (.inl hx))).trans (h.agree x hx)
 qC x:=by rw [k.qC,h.qC,u,or_assoc]
 qG x hx:=k.qG x (h.qG x hx)
 qN x hx:=by
  rcases k.qN x hx with c | ⟨p,f,rfl⟩ | c
  ·exact h.qN x c
  ·exact .inr (h.own p f)
  ·exact .inr (.inr (Qk h.size c))
 own p f:=by
  rcases k.own p f with ⟨q,j,e⟩ | c
  ·rw [←e];exact h.own q j
  ·exact .inr (Qk h.size c)
 tape:=k.tape.trans h.tape
 os:=k.os.trans h.os
 output:=k.output.trans h.output
 size:=Qk h.size k.size
 wa x hx f:=by
  rw [k.wa x (QZ hx h.size) λ p g e=>by
   rcases h.own p g with ⟨q,j,t⟩ | c
   ·exact f q j (t.trans e)
   ·omega]
  exact h.wa x hx f
 qn:=h.qn.trans k.qn
 sig:=k.sig.trans h.sig
theorem vG.vK {E:Env} {H:Heap} {w:World} {E':Env} {H':Heap} {w':World} {a b:Nat} (h:Tr E H w E' H' w' a b) {N:Nat->Prop} (c:∀h,N h↔(a<=h/\h<b)):vG E H w E' H' w' N:=
 ⟨h.agree,λ x=>by rw [h.qC,c],h.qG,h.qN,h.own,h.tape,h.os,h.output,h.size,h.wa,h.qn,h.sig⟩
theorem vG.uq {E:Env} {H:Heap} {w:World} {E':Env} {H':Heap} {w':World} {a b:Nat} {N:Nat->Prop} (h:vG E H w E' H' w' N) (c:a<=b) (e:∀h,N h↔(a<=h/\h<b)):Tr E H w E' H' w' a b:=
 ⟨c,h.agree,λ x=>by rw [h.qC,e],h.qG,h.qN,h.own,h.tape,h.os,h.output,h.size,h.wa,h.qn,h.sig⟩
theorem vG.vr {E:Env} {H:Heap} {w:World} {E':Env} {H':Heap} {w':World} {N:Nat->Prop} (c:HR E H w) (h:vG E H w E' H' w' N) {v:AV} {cv:Value} (g:VR E w v cv):VR E' w' v cv:=
 g.mono (λ x b=>⟨(h.qC x).2 (.inl b),h.agree x b⟩)
  (λ x b=>⟨h.qG x b,h.wa x (c.wg x b) λ p f e=>c.nz p f (e▸b)⟩) h.qn h.sig
section
theorem zDn {f g:Nat->Bool}:∀{al:List (Nat×Nat×HO)},(∀x∈al,f x.1=g x.1)->within f al=within g al
 | [],_=>rfl
 | (i,h,o)::r,b=>by
  have c:f i=g i:=b _ (.head _);simp only [within,c,zDn λ x e=>b x (.tail _ e)]
theorem zEH {f:Nat->Bool}:∀{a b:List (Nat×Nat×HO)},within f (a++b)=within f a++within f b
 | [],_=>rfl
 | (i,h,o)::r,b=>by
  simp only [List.cons_append,within];split
  ·rw [zEH];rfl
  ·rw [zEH]
theorem zD2 {f:Nat->Bool}:∀{al:List (Nat×Nat×HO)},(∀x∈al,f x.1=false)->within f al=[]
 | [],_=>rfl
 | (i,h,o)::r,b=>by
  have c:f i=false:=b _ (.head _);simp only [within,c];exact zD2 λ x e=>b x (.tail _ e)
theorem zIU {f g:Nat->Bool}:∀{al:List (Nat×Nat×HO)},(∀x∈al,g x.1=true->f x.1=true)->(within f al).Perm (within g al++within (λ i=>f i&&!g i) al)
 | [],_=>.refl _
 | (i,h,o)::r,c=>by
  have b:=zIU λ x j=>c x (.tail _ j)
  have e:g i=true->f i=true:=c _ (.head _);simp only [within];cases hf:f i <;> cases hg:g i
  ·simpa using b
  ·exact absurd (e hg) (by simp [hf])
  ·simpa using (b.cons (h,o)).trans List.perm_middle.symm
  ·simpa using b.cons (h,o)
theorem zGN {mask:Nat}:∀{al:List (Nat×Nat×HO)} {j:Nat},(zBZ mask al).testBit j=true↔mask.testBit j=true/\∃x∈al,x.1=j
 | [],j=>by simp [zBZ]
 | (i,h,o)::r,j=>by
  simp only [zBZ];have c:=zGN (mask:=mask) (al:=r) (j:=j);split
  ·rename_i b;rw [Nat.testBit_or,Bool.or_eq_true,Nat.testBit_two_pow,c];simp only [decide_eq_true_eq,QH,exists_eq_or_imp]
   constructor
   ·rintro (h | ⟨h1,h2⟩)
    ·subst h;exact ⟨b,.inl rfl⟩
    ·exact ⟨h1,.inr h2⟩
   ·rintro ⟨h1,h | h⟩
    ·exact .inl h
    ·exact .inr ⟨h1,h⟩
  ·rename_i b;rw [c];simp only [QH,exists_eq_or_imp]
   constructor
   ·rintro ⟨h1,h2⟩;exact ⟨h1,.inr h2⟩
   ·rintro ⟨h1,h | h⟩
    ·exact absurd h1 (by rw [←h];simp [b])
    ·exact ⟨h1,h⟩
theorem zM0:∀{ts:List Nat} {fr:Fr} {t:Nat} {v:AV},(only ts fr).get t=some v->t∈ts/\fr.get t=some v
 | [],_,_,_,h=>by simp [only,Fr.get] at h
 | f::ts,fr,t,v,h=>by
  simp only [only] at h;split at h
  ·rename_i u c;simp only [Fr.get] at h;split at h
   ·rename_i e;cases h;rw [←zb e];exact ⟨.head _,c⟩
   ·exact let ⟨a,b⟩:=zM0 h;⟨.tail _ a,b⟩
  ·exact let ⟨a,b⟩:=zM0 h;⟨.tail _ a,b⟩
theorem Fr.qu:∀(fr:Fr) (n:Nat) (v:AV) (t:Nat),(fr.put n v).get t=if n=t then some v else fr.get t
 | [],n,v,t=>by
  simp only [Fr.put,Fr.get];split
  ·rename_i e;simp [zb e]
  ·rename_i e;simp [zA3 e]
 | (k,u)::r,n,v,t=>by
  simp only [Fr.put];split
  ·rename_i e;have e:=zb e;subst e;simp only [Fr.get];split
   ·rename_i e;simp [zb e]
   ·rename_i e;simp [zA3 e]
  ·rename_i e;simp only [Fr.get,Fr.qu r n v t];split
   ·rename_i b;have:=zA3 e;have b:=zb b;subst b;rw [if_neg (λ h=>this h.symm)]
   ·rfl
def scan (L:Nat->Bool) (fr0:Fr) (t:Nat):List (Nat×Option Nat×AV)->Option AV
 | []=>fr0.get t
 | (i,d,v)::r=>match L i,d with
  | true,some d=>if d=t then some v else scan L fr0 t r
  | _,_=>scan L fr0 t r
theorem zJA {L:Nat->Bool} {fr0:Fr} {t:Nat} {r:List (Nat×Option Nat×AV)}:∀{nw:List (Nat×Option Nat×AV)},(∀x∈nw,L x.1=true->x.2.1≠some t)->scan L fr0 t (nw++r)=scan L fr0 t r
 | [],_=>rfl
 | (i,d,v)::nw,h=>by
  have b:=zJA (r:=r) (fr0:=fr0) λ x g=>h x (.tail _ g)
  have c:L i=true->d≠some t:=h _ (.head _);simp only [List.cons_append,scan];split
  ·rename_i j f;rw [if_neg λ e=>c f (by rw [e]),b]
  ·exact b
theorem zIo {L L':Nat->Bool} {fr0:Fr} {t:Nat}:∀{r:List (Nat×Option Nat×AV)},(∀x∈r,x.2.1=some t->L x.1=L' x.1)->scan L fr0 t r=scan L' fr0 t r
 | [],_=>rfl
 | (i,d,v)::r,h=>by
  have b:=zIo (fr0:=fr0) λ x f=>h x (.tail _ f)
  have c:d=some t->L i=L' i:=h _ (.head _);simp only [scan];cases d with
  | none=>simpa using b
  | some d=>
   by_cases e:d=t
   ·subst e;rw [c rfl,b]
   ·cases L i <;> cases L' i <;> simp [e,b]
def cur (L:Nat->Bool):List (Nat×Nat)->List (Heap×Nat)->Option (Heap×Nat)
 | [],x::_=>some x
 | (c,_)::ch,x::ms=>match L c with
  | true=>some x
  | false=>cur L ch ms
 | _,[]=>none
theorem zLv {L L':Nat->Bool}:∀{ch:List (Nat×Nat)} {ms:List (Heap×Nat)},(∀c∈ch,L c.1=L' c.1)->cur L ch ms=cur L' ch ms
 | [],[],_=>rfl
 | [],_::_,_=>rfl
 | (c,p)::ch,[],_=>rfl
 | (c,p)::ch,x::ms,h=>by
  have b:L c=L' c:=h _ (.head _);simp only [cur,b,zLv λ x e=>h x (.tail _ e)]
theorem zKB {L:Nat->Bool} {ch:List (Nat×Nat)} {ms:List (Heap×Nat)}:∀{e:List (Nat×Nat)} {nm:List (Heap×Nat)},nm.length=e.length->(∀c∈e,L c.1=false)->cur L (e++ch) (nm++ms)=cur L ch ms
 | [],[],_,_=>rfl
 | (c,p)::e,x::nm,b,h=>by
  have f:L c=false:=h _ (.head _);simp only [List.cons_append,cur,f];exact zKB (by simpa using b) λ x g=>h x (.tail _ g)
 | [],_::_,b,_=>by simp at b
 | _::_,[],b,_=>by simp at b
theorem zPL {L:Nat->Bool} {ch:List (Nat×Nat)} {x:Heap×Nat} {ms:List (Heap×Nat)} (h:∀c∈ch,L c.1=true):cur L ch (x::ms)=some x:=by
 cases ch with
 | nil=>rfl
 | cons c ch=>
  have b:L c.1=true:=h _ (.head _);obtain ⟨c,p⟩:=c;simp only [cur,b]
inductive DStep (G:Cx) (call:Call) (i:Nat) (o:XOper) (d:XD) (s:DS):DS->Prop where
 | skip:wantx (only d.looks s.fr) o.guard=some false->DStep G call i o d s { s with fr:=qv s.fr o.dst (.qf []),tr:=(i,o.dst,.qf [])::s.tr }
 | pure (v:AV):wantx (only d.looks s.fr) o.guard=some true->xo G ze (only d.looks s.fr) [] s.nx o.op=some (v,[],s.nx) →
   DStep G call i o d s { s with fr:=qv s.fr o.dst v,tr:=(i,o.dst,v)::s.tr }
 | read (v:AV):wantx (only d.looks s.fr) o.guard=some true->zX o.op=1 →
   DStep G call i o d s { s with fr:=qv s.fr o.dst v,rd:=⟨i,o.op,only d.looks s.fr,d.qc,v⟩::s.rd,tr:=(i,o.dst,v)::s.tr }
 | alloc (v:AV) (ob:HO):wantx (only d.looks s.fr) o.guard=some true->xo G ze (only d.looks s.fr) [] s.nx o.op=some (v,[(s.nx,ob)],s.nx+1) →
   DStep G call i o d s { s with fr:=qv s.fr o.dst v,nx:=s.nx+1,al:=(i,s.nx,ob)::s.al,tr:=(i,o.dst,v)::s.tr }
 | chain (v:AV) (m:Heap) (inc:Nat) (ms:List (Heap×Nat)) (m':Heap) (n:Nat):wantx (only d.looks s.fr) o.guard=some true->s.ms=(m,inc)::ms →
   (∀c∈s.ch,d.qc.testBit c.1=true)->xo G call (only d.looks s.fr) (within (but d.qc inc) s.al++m) s.nx o.op=some (v,m',n) →
   DStep G call i o d s { s with fr:=qv s.fr o.dst v,nx:=n,ms:=(m',inc ||| zBZ d.qc s.al)::s.ms,ch:=(i,d.qc)::s.ch,tr:=(i,o.dst,v)::s.tr }
theorem zQL {G:Cx} {call:Call} {i:Nat} {o:XOper} {d:XD} {s k:DS} (h:zDm G call i o d s=some k):DStep G call i o d s k:=by
 unfold zDm at h;simp only at h;split at h
 ·rename_i e;cases h;exact .skip e
 ·rename_i e;split at h
  ·split at h
   ·rename_i v n b;split at h
    ·rename_i f;cases h;rw [zb f] at b;exact .pure v e b
    ·cases h
   ·cases h
  ·rename_i p;split at h
   ·split at h
    ·cases h;exact .read _ e p
    ·cases h
   ·cases h
  ·split at h
   ·rename_i v u q n b;split at h
    ·rename_i f;split at h
     ·rename_i g;cases h;rw [zb f,zb g] at b;rw [zb f,zb g];exact .alloc v q e b
     ·cases h
    ·cases h
   ·rename_i v n b;split at h
    ·rename_i f;cases h;rw [zb f] at b;exact .pure v e b
    ·cases h
   ·cases h
  ·split at h
   ·rename_i m inc l j;split at h
    ·rename_i hc;split at h
     ·rename_i v r n b;cases h;exact .chain v m inc l r n e j (λ c t=>QG.1 hc c t) b
     ·cases h
    ·cases h
   ·cases h
 ·cases h
theorem zKe {G:Cx} {call:Call}:∀{ops:List XOper} {ds:List XD} {i:Nat} {s b:DS},zB0 G call i ops ds s=some b →
  ∃st:Nat->DS,st 0=s/\st ops.length=b/\∀j o,ops[j]? = some o->∃d,ds[j]? = some d/\DStep G call (i+j) o d (st j) (st (j+1))
 | [],ds,i,s,b,h=>by
  simp only [zB0] at h;cases h;exact ⟨λ _=>s,rfl,rfl,λ j o c=>by simp at c⟩
 | o::r,[],i,s,b,h=>by simp [zB0] at h
 | o::r,d::ds,i,s,b,h=>by
  simp only [zB0] at h;split at h
  ·rename_i q g;obtain ⟨st,e,p,k⟩:=zKe h;refine ⟨λ| 0=>s | j+1=>st j,rfl,by simpa using p,λ j n c=>?_⟩
   cases j with
   | zero=>
    simp at c;subst c;exact ⟨d,rfl,by show DStep G call (i+0) o d s (st 0);rw [e];exact zQL g⟩
   | succ j=>
    obtain ⟨l,f,m⟩:=k j n (by simpa using c)
    exact ⟨l,by simpa using f,by rw [show i+(j+1)=i+1+j by omega];exact m⟩
  ·cases h
structure Later (s s':DS) (lo:Nat):Prop where
 ch:∃nc nm,s'.ch=nc++s.ch/\s'.ms=nm++s.ms/\nm.length=nc.length/\∀c∈nc,lo<=c.1/\∀c0∈s.ch,c.2.testBit c0.1=true
 al:∃na,s'.al=na++s.al/\∀x∈na,lo<=x.1
 tr:∃nt,s'.tr=nt++s.tr/\∀x∈nt,lo<=x.1
 rd:∀r∈s.rd,r∈s'.rd
 nx:s.nx<=s'.nx
theorem Later.refl (s:DS) (lo:Nat):Later s s lo:=
 ⟨⟨[],[],rfl,rfl,rfl,λ c h=>by simp at h⟩,⟨[],rfl,λ c h=>by simp at h⟩,⟨[],rfl,λ c h=>by simp at h⟩,λ _ h=>h,QB _⟩
theorem Later.trans {a b c:DS} {lo f:Nat} (h:Later a b lo) (k:Later b c f) (j:lo<=f):Later a c lo:=by
 obtain ⟨Q,t,q,u,M,B⟩:=h.ch;obtain ⟨g,n,s,O,A,p⟩:=k.ch;obtain ⟨I,D,N⟩:=h.al;obtain ⟨m,F,K⟩:=k.al;obtain ⟨nt,C,h8⟩:=h.tr;obtain ⟨l,z,y⟩:=k.tr;refine ⟨⟨g++Q,n++t,by rw [s,q,Qi],by rw [O,u,Qi],by simp [M,A],λ c hc=>?_⟩,
  ⟨m++I,by rw [F,D,Qi],λ x e=>?_⟩,⟨l++nt,by rw [z,C,Qi],λ x e=>?_⟩,λ r J=>k.rd r (h.rd r J),Qk h.nx k.nx⟩
 ·rcases QI.1 hc with hc | hc
  ·exact ⟨Qk j (p c hc).1,λ c0 v=>(p c hc).2 c0 (q▸Qt _ v)⟩
  ·exact B c hc
 ·rcases QI.1 e with e | e
  ·exact Qk j (K x e)
  ·exact N x e
 ·rcases QI.1 e with e | e
  ·exact Qk j (y x e)
  ·exact h8 x e
structure Low (s:DS) (i:Nat):Prop where
 ch:∀c∈s.ch,c.1<i
 al:∀c∈s.al,c.1<i
 tr:∀c∈s.tr,c.1<i
theorem DStep.ext {G:Cx} {call:Call} {i:Nat} {o:XOper} {d:XD} {s g:DS} (hc:zEG call) (h:DStep G call i o d s g):Later s g i:=by
 have one:∀(v:AV),∃nt,(i,o.dst,v)::s.tr=nt++s.tr/\∀x∈nt,i<=x.1:=λ v=>⟨[(i,o.dst,v)],rfl,λ x b=>by simp at b;subst b;exact QB _⟩
 have e:=Later.refl s i;cases h with
 | skip _=>exact { e with tr:=one _ }
 | pure v _ _=>exact { e with tr:=one _ }
 | read v _ _=>exact { e with tr:=one _,rd:=λ r l=>.tail _ l }
 | alloc v q _ _=>exact { e with tr:=one _,al:=⟨[_],rfl,λ x b=>by simp at b;subst b;exact QB _⟩,nx:=QY _ }
 | chain v m inc p t n _ k f b=>
  exact { e with tr:=one _,ch:=⟨[_],[_],rfl,rfl,rfl,λ c j=>by simp at j;subst j;exact ⟨QB _,f⟩⟩,nx:=zRQ hc (zGK.symm.trans b) }
theorem DStep.low {G:Cx} {call:Call} {i:Nat} {o:XOper} {d:XD} {s b:DS} (h:DStep G call i o d s b) (l:Low s i):Low b (i+1):=by
 have up:Low s (i+1):=⟨λ c h=>Nat.lt_succ_of_lt (l.ch c h),λ c h=>Nat.lt_succ_of_lt (l.al c h),λ c h=>Nat.lt_succ_of_lt (l.tr c h)⟩
 have one:∀(v:AV),∀c∈(i,o.dst,v)::s.tr,c.1<i+1:=λ v c hc=>by
  rcases QH.1 hc with hc | hc
  ·subst hc;exact QU _
  ·exact up.tr c hc
 cases h with
 | skip _=>exact { up with tr:=one _ }
 | pure v _ _=>exact { up with tr:=one _ }
 | read v _ _=>exact { up with tr:=one _ }
 | alloc v j _ _=>
  refine { up with tr:=one _,al:=λ c hc=>?_ }
  rcases QH.1 hc with hc | hc
  ·subst hc;exact QU _
  ·exact up.al c hc
 | chain v m inc g k n _ e f p=>
  refine { up with tr:=one _,ch:=λ c hc=>?_ }
  rcases QH.1 hc with hc | hc
  ·subst hc;exact QU _
  ·exact up.ch c hc
theorem DStep.word {G:Cx} {call:Call} {i:Nat} {o:XOper} {d:XD} {s b:DS} (h:DStep G call i o d s b):∃v,b.tr=(i,o.dst,v)::s.tr/\b.fr=qv s.fr o.dst v:=by
 cases h <;> exact ⟨_,rfl,rfl⟩
end
end Go.Sy
namespace Go.Sy
theorem zB8 {P:Program} {ops:Array Oper} {o:Oper}:(zp P ops o).dst=o.dst:=by
 unfold zp;split
 ·rfl
 ·split <;> rfl
theorem zK9 {P:Program} {ops:Array Oper} {o:Oper} (h:o.guard=none):zp P ops o=⟨o.dst,(zB1 P o.op).getD .bad,none⟩:=by
 simp [zp,h]
theorem zLa {P:Program} {ops:Array Oper} {o:Oper} {j s:Nat} {b:Bool} (h:o.guard=some (j,b)) (c:(ops[j]?).bind (·.dst)=some s):zp P ops o=⟨o.dst,(zB1 P o.op).getD .bad,some (s,b)⟩:=by
 simp [zp,h,c]
theorem zLb {P:Program} {ops:Array Oper} {o:Oper} {j:Nat} {b:Bool} (h:o.guard=some (j,b)) (c:(ops[j]?).bind (·.dst)=none):zp P ops o=⟨o.dst,.bad,none⟩:=by
 simp [zp,h,c]
theorem zEU {P:Program} {ops:Array Oper} {o:Oper} (h:(zp P ops o).op≠.bad):zB1 P o.op=some (zp P ops o).op:=by
 have key:((zB1 P o.op).getD .bad)≠.bad->zB1 P o.op=some ((zB1 P o.op).getD .bad):=λ h=>by
  cases hc:zB1 P o.op with
  | none=>simp [hc] at h
  | some y=>rfl
 cases hg:o.guard with
 | none=>rw [zK9 hg] at *;exact key h
 | some c=>
  obtain ⟨j,b⟩:=c;cases hs:(ops[j]?).bind (·.dst) with
  | none=>rw [zLb hg hs] at h;exact absurd rfl h
  | some s=>rw [zLa hg hs] at *;exact key h
theorem zCw {P:Program} {ops:Array Oper} {o:Oper} {E:Env} {w:World} {fr:Fr} {a:Act} {nt:Nat} {b:Bool} (n:FrR E w fr a nt) (h:wantx fr (zp P ops o).guard=some b)
  (l:b=false\/(zp P ops o).op≠.bad):Region.wanted o (yielded ops a.tmps)=b:=by
 cases hg:o.guard with
 | none=>
  rw [zK9 hg] at h;simp only [wantx,QJ] at h;subst h;simp [Region.wanted,hg]
 | some t=>
  obtain ⟨j,g⟩:=t;cases hs:(ops[j]?).bind (·.dst) with
  | some s=>
   rw [zLa hg hs] at h;simp only [wantx] at h;split at h
   ·rename_i c hc;have f:=(n.get s _ hc).of_bool;have p:a.tmps[s]? = some (.bool c):=by
     rw [Array.getD_eq_getD_getElem?] at f;cases e:a.tmps[s]? with
     | none=>rw [e] at f;simp [undef] at f
     | some u=>rw [e] at f;simpa using f
    have k:yielded ops a.tmps j=some c:=by simp [yielded,hs,p]
    simp only [Region.wanted,hg,k];simp only [QJ] at h;rw [←h];cases c <;> cases g <;> rfl
   ·rename_i hc;cases h;have f:a.tmps.getD s undef=.tuple #[]:=by
     obtain ⟨m,r,q⟩:=(n.get s _ hc).w8;have:m=#[]:=by
      have:=q.of_nil;cases m;simp_all
     rw [r,this]
    have k:yielded ops a.tmps j=none:=by
     simp only [yielded,hs,Option.bind_some];rw [Array.getD_eq_getD_getElem?] at f;cases e:a.tmps[s]? with
     | none=>rfl
     | some u=>rw [e] at f;simp at f;subst f;rfl
    simp [Region.wanted,hg,k]
   ·cases h
  | none=>
   rw [zLb hg hs] at h l;simp only [wantx,QJ] at h;subst h;simp at l
structure DRun (P:Program) (G:Cx) (call:Call) (ops:Array Oper) (ds:List XD) (st:Nat->DS) (H0:Heap) (fr0:Fr) (nx0 nt:Nat):Prop where
 step:∀(j:Nat) (o:Oper),ops[j]? = some o->∃d,ds[j]? = some d/\DStep G call j (zp P ops o) d (st j) (st (j+1))
 init:st 0=⟨fr0,nx0,[(H0,0)],[],[],[],[]⟩
 apart:∀(j k:Nat) (oj ok:Oper) (dj dk:XD),j<k->ops[j]? = some oj->ops[k]? = some ok->ds[j]? = some dj->ds[k]? = some dk->dk.qc.testBit j=true\/zGL oj.dst dj ok.dst dk=true
 low:∀(j:Nat) (d:XD) (k:Nat),ds[j]? = some d->d.qc.testBit k=true->k<j
 dst:∀(j:Nat) (o:Oper) (d:Nat),ops[j]? = some o->o.dst=some d->d<nt
 reads:∀r∈(st ops.size).rd,zCz G (st ops.size).al (st ops.size).nx r (st ops.size).ch (st ops.size).ms=true
namespace DRun
variable {P:Program} {G:Cx} {call:Call} {ops:Array Oper} {ds:List XD} {st:Nat->DS} {H0:Heap} {fr0:Fr} {nx0 nt:Nat}
theorem get (_:DRun P G call ops ds st H0 fr0 nx0 nt) {j:Nat} (h:j<ops.size):∃o,ops[j]? = some o:=⟨ops[j],Qe h⟩
theorem lows (R:DRun P G call ops ds st H0 fr0 nx0 nt):∀j,j<=ops.size->Low (st j) j
 | 0,_=>by rw [R.init];exact ⟨λ c h=>by simp at h,λ c h=>by simp at h,λ c h=>by simp at h⟩
 | j+1,b=>by
  obtain ⟨o,e⟩:=R.get (j:=j) b;obtain ⟨d,_,f⟩:=R.step j o e;exact f.low (R.lows j (Qh b))
theorem later (hc:zEG call) (R:DRun P G call ops ds st H0 fr0 nx0 nt) (i:Nat):∀k,i+k<=ops.size->Later (st i) (st (i+k)) i
 | 0,_=>.refl _ _
 | k+1,b=>by
  obtain ⟨o,c⟩:=R.get (j:=i+k) b;obtain ⟨d,_,e⟩:=R.step _ o c;exact (R.later hc i k (Qh b)).trans (e.ext hc) (Qy _ _)
theorem last (hc:zEG call) (R:DRun P G call ops ds st H0 fr0 nx0 nt) {i:Nat} (b:i<=ops.size):Later (st i) (st ops.size) i:=by
 have:=R.later hc i (ops.size-i) (by omega)
 rwa [show i+(ops.size-i)=ops.size by omega] at this
theorem mono (hc:zEG call) (R:DRun P G call ops ds st H0 fr0 nx0 nt) {i j:Nat} (b:i<=j) (c:j<=ops.size):(st i).nx<=(st j).nx:=by
 have:=(R.later hc i (j-i) (by omega)).nx
 rwa [show i+(j-i)=j by omega] at this
theorem words (R:DRun P G call ops ds st H0 fr0 nx0 nt):∀j,j<=ops.size->∀x∈(st j).tr,∃o,ops[x.1]? = some o/\x.2.1=o.dst
 | 0,_=>by rw [R.init];intro x h;simp at h
 | j+1,f=>by
  obtain ⟨o,c⟩:=R.get (j:=j) f;obtain ⟨d,_,g⟩:=R.step j o c;obtain ⟨v,e,_⟩:=g.word;intro x b;rw [e] at b;rcases QH.1 b with b | b
  ·subst b;exact ⟨o,c,zB8⟩
  ·exact R.words j (Qh f) x b
theorem frames (R:DRun P G call ops ds st H0 fr0 nx0 nt) (t:Nat):∀j,j<=ops.size->scan (λ _=>true) fr0 t (st j).tr=(st j).fr.get t
 | 0,_=>by rw [R.init];rfl
 | j+1,b=>by
  obtain ⟨o,f⟩:=R.get (j:=j) b;obtain ⟨d,_,g⟩:=R.step j o f;obtain ⟨v,e,h⟩:=g.word;rw [e,h];have c:=R.frames t j (Qh b);cases hd:(zp P ops o).dst with
  | none=>simpa [scan,qv] using c
  | some s=>simp only [scan,qv,Fr.qu,c]
theorem chains (R:DRun P G call ops ds st H0 fr0 nx0 nt):∀j,j<=ops.size->∀c∈(st j).ch,∃d,ds[c.1]? = some d/\c.2=d.qc
 | 0,_=>by rw [R.init];intro x h;simp at h
 | j+1,g=>by
  obtain ⟨o,p⟩:=R.get (j:=j) g;obtain ⟨d,k,b⟩:=R.step j o p;have e:=R.chains j (Qh g);generalize l:st (j+1)=r at b;generalize f:st j=s at b e;cases b with
  | chain v m inc q t n _ _ _ _=>
   intro c hc;rcases QH.1 hc with hc | hc
   ·subst hc;exact ⟨d,k,rfl⟩
   ·exact e c hc
  | _=>exact e
structure Inv (dl:List Deferred) (st:Nat->DS) (n:Nat) (E0:Env) (H0:Heap) (w0:World) (fr0:Fr) (nt:Nat) (L:Nat->Bool) (E:Env) (w:World) (a:Act):Prop where
 size:a.tmps.size=nt
 defers:a.defers=dl
 fr:∀t v,scan L fr0 t (st n).tr=some v->VR E w v (a.tmps.getD t undef)
 heap:∃m inc,cur L (st n).ch (st n).ms=some (m,inc)/\(∀j,inc.testBit j=true->L j=true)/\HR E (within (λ j=>L j&&!inc.testBit j) (st n).al++m) w ∧
  vG E0 H0 w0 E (within (λ j=>L j&&!inc.testBit j) (st n).al++m) w λ h=>∃j,j<n/\L j=true/\(st j).nx<=h/\h<(st (j+1)).nx
theorem zM1 {n:Nat}:∀{l:List Nat},memb n l=true↔n∈l
 | []=>by simp [memb]
 | a::r=>by
  simp only [memb];split
  ·rename_i h;simp [zb h]
  ·rename_i h;have:=zA3 h;rw [zM1];simp [this]
theorem zJ4 {x y:Option Nat} {f c:XD} (h:zGL x f y c=true):(∀d,x=some d->d ∉ c.looks)/\(∀d,y=some d->d ∉ f.looks)/\(∀d,x=some d->y≠some d):=by
 simp only [zGL,QA] at h;obtain ⟨⟨j,g⟩,k⟩:=h;refine ⟨λ d e b=>?_,λ d e b=>?_,λ d e l=>?_⟩
 ·subst e;simp [zM1.2 b] at j
 ·subst e;simp [zM1.2 b] at g
 ·subst e;subst l;simp at k
section
variable {dl:List Deferred} {E0 E:Env} {w0 w:World} {a:Act} {L L':Nat->Bool} {i:Nat} {o:Oper} {d:XD}
theorem looked (hc:zEG call) (R:DRun P G call ops ds st H0 fr0 nx0 nt) (ho:ops[i]? = some o) (y:ds[i]? = some d) (z:L i=false)
  (u:∀(k:Nat) (A:XD),L k=true->ds[k]? = some A->∀j,A.qc.testBit j=true->L j=true) (l:∀j,d.qc.testBit j=true->L j=true)
  (f:Inv dl st ops.size E0 H0 w0 fr0 nt L E w a):FrR E w (only d.looks (st i).fr) a nt:=by
 have p:i<ops.size:=(Array.getElem?_eq_some_iff.1 ho).1;refine ⟨f.size,λ t v C=>?_⟩
 obtain ⟨m1,m2⟩:=zM0 C;apply f.fr;rw [←m2,←R.frames t i (Qh p)];obtain ⟨J,B,D⟩:=(R.last hc (Qh p)).tr;rw [B,zJA]
 ·apply zIo;intro x m e;obtain ⟨I,g,r⟩:=R.words i (Qh p) x m;have b:=(R.lows i (Qh p)).tr x m;obtain ⟨F,n,_⟩:=R.step _ _ g;rcases R.apart _ _ _ _ _ _ b g ho n y with c | c
  ·exact l _ c
  ·exact absurd m1 ((zJ4 c).1 t (by rw [←r];exact e))
 ·intro x m s e;obtain ⟨I,g,r⟩:=R.words ops.size (QB _) x (B▸Qw _ m)
  have q:=D x m;have b:i<x.1:=by
   rcases Nat.eq_or_lt_of_le q with h | h
   ·rw [←h,z] at s;cases s
   ·exact h
  obtain ⟨F,n,_⟩:=R.step _ _ g;rcases R.apart _ _ _ _ _ _ b ho g y n with c | c
  ·have:=u _ _ s n _ c;rw [z] at this;cases this
  ·exact (zJ4 c).2.1 t (by rw [←r];exact e) m1
theorem behind (hc:zEG call) (R:DRun P G call ops ds st H0 fr0 nx0 nt) (ho:ops[i]? = some o) (F:ds[i]? = some d) (I:L i=false) (f:∀j,L' j=(L j||j==i))
  (z:∀(k:Nat) (A:XD),L k=true->ds[k]? = some A->∀j,A.qc.testBit j=true->L j=true)
  (n:Inv dl st ops.size E0 H0 w0 fr0 nt L E w a) {E':Env} {w':World} {v:AV} {cv:Value} (K:(st (i+1)).tr=(i,(zp P ops o).dst,v)::(st i).tr)
  (h:∀{v cv},VR E w v cv->VR E' w' v cv) (O:VR E' w' v cv):∀t u,scan L' fr0 t (st ops.size).tr=some u->VR E' w' u ((a.put o.dst cv).tmps.getD t undef):=by
 have M:i<ops.size:=(Array.getElem?_eq_some_iff.1 ho).1;intro t u l;by_cases b:o.dst=some t
 ·obtain ⟨S,C,J⟩:=(R.last hc (i:=i+1) M).tr;rw [C,zJA,K] at l
  ·have c:L' i=true:=by simp [f]
   rw [zB8,b] at l;simp only [scan,c,if_true,QJ] at l;subst l;have s:t<a.tmps.size:=by rw [n.size];exact R.dst i o t ho b
   simpa [Act.put,b,Array.getElem?_setIfInBounds,s] using O
  ·intro x q p g;have D:=J x q;have p:L x.1=true:=by
    rw [f] at p;have:(x.1==i)=false:=by simp;omega
    simpa [this] using p
   obtain ⟨Q,c,m⟩:=R.words ops.size (QB _) x (C▸Qw _ q)
   obtain ⟨T,B,_⟩:=R.step _ _ c;rcases R.apart i x.1 _ _ _ _ (by omega) ho c F B with y | y
   ·have:=z _ _ p B _ y;rw [I] at this;cases this
   ·exact (zJ4 y).2.2 t b (by rw [←m];exact g)
 ·rw [zIo (L':=L)] at l
  ·have c:=h (n.fr t u l);have m:(a.put o.dst cv).tmps.getD t undef=a.tmps.getD t undef:=by
    unfold Act.put;split
    ·rename_i N r;have:N≠t:=λ e=>b (by rw [r,e])
     simp [Array.getElem?_setIfInBounds_ne this]
    ·rfl
   rw [m];exact c
  ·intro x q g;obtain ⟨Q,c,m⟩:=R.words ops.size (QB _) x q;rw [f];have:x.1≠i:=λ e=>by
    rw [e,ho] at c;cases c;exact b (by rw [←m];exact g)
   simp [this]
theorem zUu (hc:zEG call) (R:DRun P G call ops ds st H0 fr0 nx0 nt) (c:i<ops.size) (h:(st (i+1)).al=(st i).al):∀x∈(st ops.size).al,x.1≠i:=by
 obtain ⟨g,e,f⟩:=(R.last hc (i:=i+1) c).al;intro x b;rw [e,h] at b;rcases QI.1 b with b | b
 ·have:=f x b;omega
 ·have:=(R.lows i (Qh c)).al x b;omega
theorem zUv (hc:zEG call) (R:DRun P G call ops ds st H0 fr0 nx0 nt) (c:i<ops.size) (h:(st (i+1)).ch=(st i).ch):∀x∈(st ops.size).ch,x.1≠i:=by
 obtain ⟨j,g,e,_,_,f⟩:=(R.last hc (i:=i+1) c).ch;intro x b;rw [e,h] at b;rcases QI.1 b with b | b
 ·have:=(f x b).1;omega
 ·have:=(R.lows i (Qh c)).ch x b;omega
theorem zTT (hc:zEG call) (R:DRun P G call ops ds st H0 fr0 nx0 nt) (c:i<ops.size) (g:L i=false) (b:Fresh E0 nx0 (st ops.size).nx) {H:Heap}
  (k:vG E0 H0 w0 E H w λ h=>∃j,j<ops.size/\L j=true/\(st j).nx<=h/\h<(st (j+1)).nx):Fresh E (st i).nx (st (i+1)).nx:=by
 intro h r p m;rcases (k.qC h).1 m with l | ⟨j,f,e,q,s⟩
 ·have n:(st 0).nx=nx0:=by rw [R.init]
  have:=R.mono hc (QR i) (Qh c);have:=R.mono hc (i:=i+1) c (QB _);exact b h (by omega) (by omega) l
 ·rcases Nat.lt_trichotomy i j with h | h | h
  ·have:=R.mono hc (i:=i+1) (j:=j) h (Qh f);omega
  ·subst h;rw [g] at e;cases e
  ·have:=R.mono hc (i:=j+1) (j:=i) h (Qh c);omega
theorem zU3 (e:i<ops.size) (c:∀j,L' j=(L j||j==i)) (h:Nat):
  (∃j,j<ops.size/\L' j=true/\(st j).nx<=h/\h<(st (j+1)).nx)↔(∃j,j<ops.size/\L j=true/\(st j).nx<=h/\h<(st (j+1)).nx)\/((st i).nx<=h/\h<(st (i+1)).nx):=by
 constructor
 ·rintro ⟨j,h1,b,h3⟩
  rw [c,Bool.or_eq_true,beq_iff_eq] at b;rcases b with b | b
  ·exact .inl ⟨j,h1,b,h3⟩
  ·subst b;exact .inr h3
 ·rintro (⟨j,h1,b,h3⟩ | h3)
  ·exact ⟨j,h1,by rw [c,b];rfl,h3⟩
  ·exact ⟨i,e,by simp [c],h3⟩
theorem zNC {r:DRead} {al:List (Nat×Nat×HO)} {nx:Nat} (l:L r.i=false) (e:∀j,r.qc.testBit j=true->L j=true):
  ∀{ch:List (Nat×Nat)} {ms:List (Heap×Nat)} {m:Heap} {inc:Nat},(∀c∈ch,L c.1=true->∀j,c.2.testBit j=true->L j=true)->zCz G al nx r ch ms=true->cur L ch ms=some (m,inc)->zEb G al nx r m inc=true
 | [],x::ms,m,inc,_,h,b=>by
  simp only [cur,QJ] at b;subst b
  simpa [zCz] using h
 | [],[],m,inc,_,h,b=>by simp [cur] at b
 | c::ch,[],m,inc,_,h,b=>by simp [cur] at b
 | (c,p)::ch,(m0,q)::ms,m,inc,f,h,b=>by
  have s:L c=true->∀j,p.testBit j=true->L j=true:=f _ (.head _);simp only [cur] at b;simp only [zCz] at h;split at b
  ·rename_i k;cases b;split at h
   ·exact h
   ·split at h
    ·rename_i g;have:=s k _ g;rw [l] at this;cases this
    ·split at h
     ·rename_i t;exact t
     ·cases h
  ·rename_i k;split at h
   ·rename_i g;have:=e _ g;rw [k] at this;cases this
   ·have n:=λ h=>zNC (al:=al) (nx:=nx) (ch:=ch) (ms:=ms) (m:=m) (inc:=inc) l e (λ x u=>f x (.tail _ u)) h b
    split at h
    ·exact n h
    ·split at h
     ·exact n h
     ·cases h
end
end DRun
end Go.Sy
namespace Go.Sy
namespace DRun
variable {P:Program} {G:Cx} {call:Call} {ops:Array Oper} {ds:List XD} {st:Nat->DS} {H0:Heap} {fr0:Fr} {nx0 nt:Nat}
variable {dl:List Deferred} {E0 E:Env} {w0 w:World} {a:Act} {L L':Nat->Bool} {i:Nat} {o:Oper} {d:XD}
theorem put_defers {a:Act} {d:Option Nat} {v:Value}:(a.put d v).defers=a.defers:=by
 unfold Act.put;split <;> rfl
theorem put_size {a:Act} {d:Option Nat} {v:Value}:(a.put d v).tmps.size=a.tmps.size:=by
 unfold Act.put;split <;> simp
theorem wpOp_of {Q:Exit->Act->World->Prop} {K:Act->World->Prop} (ho:ops[i]? = some o) (b:Region.wanted o (yielded ops a.tmps)=true) (h:o.wp P a w K Q):wpOp P ops Q i K a w:=by
 unfold wpOp;simp only [ho,b,if_true];exact .inl h
theorem wpOp_not {Q:Exit->Act->World->Prop} {K:Act->World->Prop} (ho:ops[i]? = some o) (b:Region.wanted o (yielded ops a.tmps)=false) (h:K (a.put o.dst undef) w):wpOp P ops Q i K a w:=by
 unfold wpOp;simp only [ho,b];exact h
theorem zUw {α:Type} (a b c:List α):(a++b++c).Perm (a++c++b):=by
 rw [Qi,Qi];exact List.perm_append_comm.append_left a
theorem exec (O:zFb P G call) (hm:zBe P G) (R:DRun P G call ops ds st H0 fr0 nx0 nt) (aw:HR E0 H0 w0) (ah:GR G E0 w0) (a6:Fresh E0 nx0 (st ops.size).nx)
  (ho:ops[i]? = some o) (W:L i=false) (u:∀j,L' j=(L j||j==i))
  (aa:∀(k:Nat) (dk:XD),L k=true->ds[k]? = some dk->∀j,dk.qc.testBit j=true->L j=true) (t:∀d,ds[i]? = some d->∀j,d.qc.testBit j=true->L j=true)
  (S:Inv dl st ops.size E0 H0 w0 fr0 nt L E w a) {K:Act->World->Prop} {Q:Exit->Act->World->Prop} (hK:∀E' a' w',Inv dl st ops.size E0 H0 w0 fr0 nt L' E' w' a'->K a' w'):wpOp P ops Q i K a w:=by
 have hc:zEG call:=O.le;have U:i<ops.size:=(Array.getElem?_eq_some_iff.1 ho).1;obtain ⟨d,hd,hs⟩:=R.step i o ho;have t:=t d hd;have A:=looked hc R ho hd W aa t S;obtain ⟨m,inc,F,I,hr,ht⟩:=S.heap;have hg:GR G E w:=λ g v hv=>⟨ht.vr aw (ah g v hv).1,(ah g v hv).2.mono ht.qn⟩
 have V:=zTT hc R U W a6 ht;have z:∀{j:Nat},L' j=true↔L j=true\/j=i:=λ{j}=>by rw [u];simp
 have close:∀{E':Env} {w':World} {v:AV} {cv:Value} {Y:Heap} {y:Nat},(st (i+1)).tr=(i,(zp P ops o).dst,v)::(st i).tr->VR E' w' v cv->cur L' (st ops.size).ch (st ops.size).ms=some (Y,y) →
   (∀j,y.testBit j=true->L' j=true)->HR E' (within (λ j=>L' j&&!y.testBit j) (st ops.size).al++Y) w' →
   Tr E (within (λ j=>L j&&!inc.testBit j) (st ops.size).al++m) w E' (within (λ j=>L' j&&!y.testBit j) (st ops.size).al++Y) w' (st i).nx (st (i+1)).nx->K (a.put o.dst cv) w':=by
  intro E' w' v cv Y y hw hv B C J h4;refine hK E' _ w' ⟨by rw [put_size];exact S.size,by rw [put_defers];exact S.defers,behind hc R ho hd W u aa S hw (h4.vr hr) hv,Y,y,B,C,J,ht.step h4 λ h=>zU3 U u h⟩
 have T:∀{E':Env} {w':World} {v:AV} {cv:Value},(st (i+1)).tr=(i,(zp P ops o).dst,v)::(st i).tr->VR E' w' v cv->(st (i+1)).al=(st i).al->(st (i+1)).ch=(st i).ch->(st (i+1)).nx=(st i).nx →
   HR E' (within (λ j=>L j&&!inc.testBit j) (st ops.size).al++m) w' →
   Tr E (within (λ j=>L j&&!inc.testBit j) (st ops.size).al++m) w E' (within (λ j=>L j&&!inc.testBit j) (st ops.size).al++m) w' (st i).nx (st i).nx->K (a.put o.dst cv) w':=by
  intro E' w' v cv hw hv B C J h4 h5;have e1:cur L' (st ops.size).ch (st ops.size).ms=some (m,inc):=by
   rw [←F];refine zLv λ c s=>?_
   have:=zUv hc R U C c s;rw [u];simp [this]
  have e2:within (λ j=>L' j&&!inc.testBit j) (st ops.size).al=within (λ j=>L j&&!inc.testBit j) (st ops.size).al:=by
   refine zDn λ x p=>?_
   have:=zUu hc R U B x p;have e:L' x.1=L x.1:=by rw [u];simp [this]
   simp only [e]
  refine close hw hv e1 (λ j M=>z.2 (.inl (I j M))) (by rw [e2];exact h4) ?_
  rw [e2,J];exact h5
 obtain ⟨nw,ad,af⟩:=(R.last hc (i:=i+1) U).al;obtain ⟨nc,nm,ae,ag,ao,ai⟩:=(R.last hc (i:=i+1) U).ch;have low:=R.lows i (Qh U);generalize l:st (i+1)=s1 at hs;have a7:=l;cases hs with
 | skip q=>
  exact wpOp_not ho (zCw A q (.inl rfl)) (T (v:=.qf []) (cv:=undef) (by rw [l]) (VR.qJ (vs:=#[]) VRs.nil) (by rw [l]) (by rw [l]) (by rw [l]) hr (.refl _))
 | pure v q p=>
  have r:(zp P ops o).op≠.bad:=λ e=>by rw [e] at p;simp [xo,zNn] at p
  have ac:HR E ([]++(within (λ j=>L j&&!inc.testBit j) (st ops.size).al++m)) w:=hr
  refine wpOp_of ho (zCw A q (.inr r)) (zGk (hr.sub (List.nil_sublist _)) A hg hm zET (zEU r) (λ h B C=>by omega) (zGK.symm.trans p) K Q λ cv E' w' B C J=>?_)
  obtain ⟨f1,f2⟩:=Tr.frame ac B C;exact T (v:=v) (by rw [l]) J (by rw [l]) (by rw [l]) (by rw [l]) f1 f2
 | read v q hk=>
  have ay:=R.reads _ ((R.last hc (i:=i+1) U).rd ⟨i,(zp P ops o).op,only d.looks (st i).fr,d.qc,v⟩ (by rw [l];exact .head _))
  have X:=zNC (L:=L) W t (λ c s hl j M=>by
   obtain ⟨dc,B,C⟩:=R.chains ops.size (QB _) c s;exact aa _ _ hl B j (C▸M)) ay F
  unfold zEb at X;split at X
  ·rename_i v' H1 n1 p;have:=zWe X;simp only at this p;subst this;obtain ⟨e1,e2⟩:=zQ8 hk (zGK.symm.trans p);subst e1;subst e2;have r:(zp P ops o).op≠.bad:=λ e=>by rw [e] at hk;cases hk
   have hp:=zIU (f:=λ j=>L j&&!inc.testBit j) (g:=but d.qc inc) (al:=(st ops.size).al) λ x _ p=>by
    simp only [but,QA] at p;simp only [t _ p.1,p.2,Bool.and_self]
   have D:=(hp.append_right m).trans (zUw _ _ _);have N:=hr.perm D;refine wpOp_of ho (zCw A q (.inr r)) (zGk (N.sub (List.sublist_append_left _ _)) A hg hm zET (zEU r) (λ h B C=>by omega) (zGK.symm.trans p) K Q λ cv E' w' B C J=>?_)
   obtain ⟨f1,f2⟩:=Tr.frame N B C;have f3:=f2.perm D.symm D.symm;exact T (v:=v') (by rw [l]) J (by rw [l]) (by rw [l]) (by rw [l]) (f1.perm D.symm) ⟨QB _,f3.agree,λ h=>(f3.qC h).trans ⟨Or.imp id λ⟨a,b⟩=>by omega,Or.imp id λ⟨a,b⟩=>by omega⟩,f3.qG,f3.qN,f3.own,f3.tape,f3.os,f3.output,f3.size,f3.wa,f3.qn,f3.sig⟩
  ·cases X
 | alloc v ob q p=>
  have r:(zp P ops o).op≠.bad:=λ e=>by rw [e] at p;simp [xo,zNn] at p
  have ac:HR E ([]++(within (λ j=>L j&&!inc.testBit j) (st ops.size).al++m)) w:=hr
  rw [l] at V;refine wpOp_of ho (zCw A q (.inr r)) (zGk (hr.sub (List.nil_sublist _)) A hg hm zET (zEU r) V (zGK.symm.trans p) K Q λ cv E' w' B C J=>?_)
  obtain ⟨f1,f2⟩:=Tr.frame ac B C;have e1:cur L' (st ops.size).ch (st ops.size).ms=some (m,inc):=by
   rw [←F];refine zLv λ c s=>?_
   have:=zUv hc R U (by rw [l]) c s
   rw [u];simp [this]
  have e2:(within (λ j=>L' j&&!inc.testBit j) (st ops.size).al).Perm ((((st i).nx,ob))::within (λ j=>L j&&!inc.testBit j) (st ops.size).al):=by
   rw [ad,l];simp only [zEH];have g1:within (λ j=>L' j&&!inc.testBit j) nw=within (λ j=>L j&&!inc.testBit j) nw:=zDn λ x p=>by
    have:x.1≠i:=by have:=af x p;omega
    have e:L' x.1=L x.1:=by rw [u];simp [this]
    simp only [e]
   have g2:within (λ j=>L' j&&!inc.testBit j) (st i).al=within (λ j=>L j&&!inc.testBit j) (st i).al:=zDn λ x p=>by
    have:x.1≠i:=by have:=low.al x p;omega
    have e:L' x.1=L x.1:=by rw [u];simp [this]
    simp only [e]
   have g3:inc.testBit i=false:=by
    cases h:inc.testBit i with
    | false=>rfl
    | true=>rw [I i h] at W;cases W
   have g4:L' i=true:=z.2 (.inr rfl);simp only [within,g1,g2,g3,g4,W,Bool.not_false,QT];exact List.perm_middle
  have e3:=e2.append_right m;refine close (v:=v) (by rw [l]) J e1 (λ j M=>z.2 (.inl (I j M))) (f1.perm e3.symm) ?_
  rw [l];exact f2.perm (.refl _) e3.symm
 | chain v m0 aq ms Y n q a1 az p=>
  have r:(zp P ops o).op≠.bad:=λ e=>by rw [e] at p;simp [xo,zNn] at p
  have ab:∀c∈nc,L c.1=false:=λ c s=>by
   cases h:L c.1 with
   | false=>rfl
   | true=>
    obtain ⟨dc,B,C⟩:=R.chains ops.size (QB _) c (ae▸Qw _ s)
    have J:=(ai c s).2 (i,d.qc) (by rw [l];exact .head _)
    have h4:=aa _ _ h B i (C▸J)
    rw [W] at h4;cases h4
  have ak:∀c∈(st i).ch,L c.1=true:=λ c s=>t _ (az c s)
  have aj:some (m,inc)=some (m0,aq):=by
   rw [←F,ae,ag,zKB ao ab,l];simp only [cur,W];rw [a1];exact zPL ak
  cases aj;have e1:cur L' (st ops.size).ch (st ops.size).ms=some (Y,inc ||| zBZ d.qc (st i).al):=by
   rw [ae,ag,zKB ao λ c s=>?_,l]
   ·have g4:L' i=true:=z.2 (.inr rfl);simp only [cur,g4]
   ·have B:=(ai c s).1;have:c.1≠i:=by omega
    rw [u,ab c s];simp [this]
  have hp:=zIU (f:=λ j=>L j&&!inc.testBit j) (g:=but d.qc inc) (al:=(st ops.size).al) λ x _ p=>by
   simp only [but,QA] at p;simp only [t _ p.1,p.2,Bool.and_self]
  have ax:within (but d.qc inc) (st ops.size).al=within (but d.qc inc) (st i).al:=by
   rw [ad,l,zEH,zD2,List.nil_append];intro x p;have B:=af x p;cases h:but d.qc inc x.1 with
   | false=>rfl
   | true=>
    simp only [but,QA] at h;have:=R.low i d _ hd h.1;omega
  have D:=(hp.append_right m).trans (zUw _ _ _);rw [ax] at D;have N:=hr.perm D;rw [l] at V;refine wpOp_of ho (zCw A q (.inr r)) (zGk (N.sub (List.sublist_append_left _ _)) A hg hm O (zEU r) V (zGK.symm.trans p) K Q λ cv E' w' B C J=>?_)
  obtain ⟨f1,f2⟩:=Tr.frame N B C;have e2:within (λ j=>L' j&&!(inc ||| zBZ d.qc (st i).al).testBit j) (st ops.size).al=within (λ j=>(L j&&!inc.testBit j)&&!but d.qc inc j) (st ops.size).al:=by
   refine zDn λ x p=>?_
   have ar:x.1≠i:=zUu hc R U (by rw [l]) x p
   have au:(zBZ d.qc (st i).al).testBit x.1=d.qc.testBit x.1:=by
    rw [Bool.eq_iff_iff,zGN];refine ⟨And.left,λ h=>⟨h,?_⟩⟩
    rw [ad,l] at p;rcases QI.1 p with p | p
    ·have:=af x p;have:=R.low i d _ hd h;omega
    ·exact ⟨x,p,rfl⟩
   have:(x.1==i)=false:=by simp [ar]
   simp only [u,this,Bool.or_false,Nat.testBit_or,au,but];cases L x.1 <;> cases inc.testBit x.1 <;> cases d.qc.testBit x.1 <;> rfl
  have e3:(Y++within (λ j=>(L j&&!inc.testBit j)&&!but d.qc inc j) (st ops.size).al).Perm (within (λ j=>L' j&&!(inc ||| zBZ d.qc (st i).al).testBit j) (st ops.size).al++Y):=by
   rw [e2];exact List.perm_append_comm
  refine close (v:=v) (by rw [l]) J e1 (λ j M=>?_) (f1.perm e3) ?_
  ·rw [Nat.testBit_or,Bool.or_eq_true,zGN] at M;rcases M with M | M
   ·exact z.2 (.inl (I j M))
   ·exact z.2 (.inl (t j M.1))
  ·rw [l];exact f2.perm D.symm e3
end DRun
end Go.Sy
namespace Go.Sy
def zPM (r:Nat->Option Nat) (o:Oper) (m:Nat):Prop:=
 ∀k,m.testBit k=true->∃e∈o.after,Region.binds .any e=true/\(k=e.on\/∃b,r e.on=some b/\b.testBit k=true)
theorem zND (b:Array Nat):∀(es:List Edge) (s k:Nat),(es.foldl (λ s e=>if Region.binds .any e then s ||| 2 ^ e.on ||| b.getD e.on 0 else s) s).testBit k=true →
  s.testBit k=true\/∃e∈es,Region.binds .any e=true/\(k=e.on\/∃c,b[e.on]? = some c/\c.testBit k=true)
 | [],s,k,h=>.inl h
 | e::es,s,k,h=>by
  rcases zND b es _ k h with h | ⟨l,j,g⟩
  ·simp only at h;split at h
   ·rename_i f;rw [Nat.testBit_or,Nat.testBit_or,Bool.or_eq_true,Bool.or_eq_true] at h;rcases h with (h | h) | h
    ·exact .inl h
    ·rw [Nat.testBit_two_pow] at h;exact .inr ⟨e,.head _,f,.inl (by have:=QO h;exact this.symm)⟩
    ·refine .inr ⟨e,.head _,f,.inr ?_⟩
     rw [Array.getD_eq_getD_getElem?] at h;cases hm:b[e.on]? with
     | none=>rw [hm] at h;simp at h
     | some c=>rw [hm] at h;exact ⟨c,rfl,h⟩
   ·exact .inl h
  ·exact .inr ⟨l,.tail _ j,g⟩
theorem zOC:∀(f:List Oper) (c:Array Nat),let r:=f.foldl (λ c o=>c.push (o.after.foldl (λ s e=>if Region.binds .any e then s ||| 2 ^ e.on ||| c.getD e.on 0 else s) 0)) c
  (∀(j m:Nat),c[j]? = some m->r[j]? = some m)/\r.size=c.size+f.length/\∀(j:Nat) (o:Oper),f[j]? = some o->∃m,r[c.size+j]? = some m/\zPM (λ j=>r[j]?) o m
 | [],c=>⟨λ _ _ h=>h,rfl,λ j o h=>by simp at h⟩
 | o::f,c=>by
  intro r;obtain ⟨q,n,u⟩:=zOC f (c.push (o.after.foldl (λ s e=>if Region.binds .any e then s ||| 2 ^ e.on ||| c.getD e.on 0 else s) 0))
  have up:∀(j m:Nat),c[j]? = some m->r[j]? = some m:=λ j m h=>q j m (by
   have:=(Array.getElem?_eq_some_iff.1 h).1;rw [Array.getElem?_push_lt this];rw [Qe this] at h;exact h)
  have g:r.size=c.size+1+f.length:=by rw [Array.size_push] at n;exact n
  refine ⟨up,by rw [g,QK];omega,λ j v l=>?_⟩
  cases j with
  | zero=>
   simp at l;subst l;refine ⟨_,q c.size _ Array.getElem?_push_size,λ k p=>?_⟩
   rw [←Array.foldl_toList] at p;rcases zND c _ 0 k p with h | ⟨e,y,t,h⟩
   ·simp at h
   ·exact ⟨e,by simpa using y,t,h.imp id λ⟨x,a,b⟩=>⟨x,up _ _ a,b⟩⟩
  | succ j=>
   obtain ⟨m,a,b⟩:=u j v (by simpa using l)
   refine ⟨m,?_,b⟩
   rw [←a];congr 1;simp;omega
theorem zMQ {ops:Array Oper}:(Region.before ops).size=ops.size/\∀(j:Nat) (o:Oper),ops[j]? = some o->∃m,(Region.before ops)[j]? = some m/\zPM (λ j=>(Region.before ops)[j]?) o m:=by
 have h:=zOC ops.toList #[];have e:Region.before ops=ops.toList.foldl (λ c o=>c.push (o.after.foldl (λ s e=>if Region.binds .any e then s ||| 2 ^ e.on ||| c.getD e.on 0 else s) 0)) #[]:=by
  rw [Array.foldl_toList];rfl
 rw [e];refine ⟨by simpa using h.2.1,λ j o f=>?_⟩
 obtain ⟨m,a,b⟩:=h.2.2 j o (by simpa using f)
 exact ⟨m,by simpa using a,b⟩
theorem zLw {ops:Array Oper} {P:Program}:∀{c:List Oper} {ms:List Nat} {i:Nat} {d:XD},(zipD ops P c ms)[i]? = some d->∃m,ms[i]? = some m/\d.qc=m
 | o::r,m::ms,0,d,h=>by simp [zipD] at h;exact ⟨m,rfl,by rw [←h]⟩
 | o::r,m::ms,i+1,d,h=>by
  simp only [zipD,List.getElem?_cons_succ] at h;obtain ⟨e,a,b⟩:=zLw h;exact ⟨e,by simpa using a,b⟩
 | [],ms,i,d,h=>by simp [zipD] at h
 | _::_,[],i,d,h=>by simp [zipD] at h
theorem zKC:∀{k:List Oper} {i:Nat},zMc i k=true->∀(j:Nat) (o:Oper),k[j]? = some o->∀e∈o.after,Region.binds .any e=true->e.on<i+j
 | o::r,i,h,0,g,b,e,c,f=>by
  simp at b;subst b;simp only [zMc,QA,QG] at h;have:=h.1 e (by simpa using c)
  simp only [f,Bool.not_true,Bool.false_or] at this;rw [Ql] at this;exact this
 | o::r,i,h,j+1,g,b,e,c,f=>by
  simp only [zMc,QA] at h;have:=zKC h.2 j g (by simpa using b) e c f
  omega
 | [],i,h,j,g,b,e,c,f=>by simp at b
theorem zIV:∀{xs:List XOper} {ds:List XD} {i:Nat} {es:List (Nat×Option Nat×XD)},zKb i es xs ds=true->∀(k:Nat) (y:XOper) (b:XD),xs[k]? = some y->ds[k]? = some b →
  (∀e∈es,b.qc.testBit e.1=true\/zGL e.2.1 e.2.2 y.dst b=true)/\∀(j:Nat) (x:XOper) (f:XD),j<k->xs[j]? = some x->ds[j]? = some f->b.qc.testBit (i+j)=true\/zGL x.dst f y.dst b=true
 | [],_,_,_,_,k,y,b,h,_=>by simp at h
 | _::_,[],_,_,h,_,_,_,_,_=>by simp [zKb] at h
 | s::xs,d0::ds,i,es,h,k,y,b,l,g=>by
  simp only [zKb,QA,QG,Bool.or_eq_true] at h;cases k with
  | zero=>
   simp at l g;subst l;subst g;exact ⟨h.1,λ j x f q=>by omega⟩
  | succ k=>
   obtain ⟨n,p⟩:=zIV h.2 k y b (by simpa using l) (by simpa using g)
   refine ⟨λ e r=>n e (.tail _ r),λ j x f q m c=>?_⟩
   cases j with
   | zero=>
    simp at m c;subst m;subst c;exact n _ (.head _)
   | succ j=>
    have:=p j x f (by omega) (by simpa using m) (by simpa using c)
    rwa [show i+(j+1)=i+1+j by omega]
namespace DRun
variable {dl:List Deferred} {P:Program} {G:Cx} {call:Call} {ops:Array Oper} {ds:List XD} {st:Nat->DS} {H0:Heap} {fr0:Fr} {nx0 nt:Nat}
def Ahead (ops:Array Oper) (ds:List XD):Prop:=
 ∀(j:Nat) (o:Oper) (d:XD),ops[j]? = some o->ds[j]? = some d->∀k,d.qc.testBit k=true->∃e∈o.after,Region.binds .any e=true/\(k=e.on\/∃b,ds[e.on]? = some b/\b.qc.testBit k=true)
def Down (ops:Array Oper):Prop:=∀(j:Nat) (o:Oper),ops[j]? = some o->∀e∈o.after,Region.binds .any e=true->e.on<j
theorem any_order (u:zFb P G call) (hm:zBe P G) (R:DRun P G call ops ds st H0 fr0 nx0 nt) {E0:Env} {w0:World} (N:HR E0 H0 w0) (S:GR G E0 w0) (J:Fresh E0 nx0 (st ops.size).nx)
  (ha:Ahead ops ds) (O:Down ops) {Q:Exit->Act->World->Prop} (U:∀L E w a,(∀j,j<ops.size->L j=true)->Inv dl st ops.size E0 H0 w0 fr0 nt L E w a->Q .normal a w):
  ∀(fuel:Nat) (listed:Array Bool) (E:Env) (a:Act) (w:World),listed.size=ops.size->listed.toList.count false<=fuel →
   (∀(k:Nat) (A:XD),listed.getD k false=true->ds[k]? = some A->∀j,A.qc.testBit j=true->listed.getD j false=true) →
   Inv dl st ops.size E0 H0 w0 fr0 nt (λ j=>listed.getD j false) E w a->wpAny P .any ops Q fuel listed a w:=by
 have done:∀(listed:Array Bool),listed.size=ops.size->Region.ready .any ops listed=[]->∀j,j<ops.size->listed.getD j false=true:=by
  intro listed c B j
  induction j using Nat.strongRecOn with
  | _ j T=>
   intro f;cases hl:listed.getD j false with
   | true=>rfl
   | false=>
    have g:j<listed.size:=c▸f
    have:j∈Region.ready .any ops listed:=by
     rw [mem_ready];refine ⟨?_,ops[j],Qe f,λ e I F=>?_⟩
     ·simpa [g] using hl
     ·have:=O j _ (Qe f) e I F;exact T e.on this (by omega)
    rw [B] at this;cases this
 intro fuel
 induction fuel with
 | zero=>
  intro listed E a w c hc n m;have q:∀j,j<ops.size->listed.getD j false=true:=by
   intro j f;have g:j<listed.size:=c▸f
   cases hl:listed.getD j false with
   | true=>rfl
   | false=>
    have:false∈listed.toList:=by
     have s:listed[j]=false:=by simpa [g] using hl
     rw [←s];simp
    have:=List.count_pos_iff.2 this;omega
  refine ⟨?_,U _ E w a q m⟩
  cases B:Region.ready .any ops listed with
  | nil=>rfl
  | cons x r=>
   have hx:x∈Region.ready .any ops listed:=by rw [B];exact .head _
   obtain ⟨v,o,z,_⟩:=mem_ready.1 hx;have l:=(Array.getElem?_eq_some_iff.1 z).1;have s:=q x l;have g:x<listed.size:=c▸l
   simp [g] at v s;rw [s] at v;cases v
 | succ fuel T=>
  intro listed E a w c hc n m;refine ⟨λ B=>U _ E w a (done listed c B) m,λ i hi=>?_⟩
  obtain ⟨v,o,z,s⟩:=mem_ready.1 hi;have l:=(Array.getElem?_eq_some_iff.1 z).1;have b:i<listed.size:=c▸l
  have M:listed.getD i false=false:=by simpa [b] using v
  have C:∀j,(listed.setIfInBounds i true).getD j false=(listed.getD j false||j==i):=by
   intro j;by_cases f:i=j
   ·subst f;simp [b]
   ·rw [getD_set_ne false f];have:(j==i)=false:=by simp;exact λ h=>f h.symm
    simp [this]
  have p:∀(d:XD),ds[i]? = some d->∀j,d.qc.testBit j=true->listed.getD j false=true:=by
   intro d X j f;obtain ⟨e,I,F,h | ⟨d',W,K⟩⟩:=ha i o d z X j f
   ·rw [h];exact s e I F
   ·exact n e.on d' (s e I F) W j K
  refine exec u hm R N S J z M C n p m λ E' a' Y y=>T _ E' a' Y (by simpa using c) ?_ ?_ y
  ·have W:listed.toList[i]? = some false:=by
    have:listed[i]=false:=by simpa [b] using M
    simp [b,this]
   have K:(listed.setIfInBounds i true).toList=listed.toList.set i true:=by simp
   rw [K,List.count_set (by simpa using b)]
   have V:listed.toList[i]'(by simpa using b)=false:=by simpa [b] using M
   have h6:0<listed.toList.count false:=List.count_pos_iff.2 (by rw [←V];exact Qn _)
   simp only [V];simp;simp at h6 hc;omega
  ·intro k A t D j f;rw [C] at t ⊢;rw [Bool.or_eq_true,beq_iff_eq] at t;rcases t with t | t
   ·rw [n k A t D j f];rfl
   ·subst t;rw [p A D j f];rfl
end DRun
theorem zRR {P:Program} {G:Cx} {call:Call} {id:Nat} {ops:Array Oper} {xs:List XOper} {ds:List XD} {nt:Nat} {fr fr':Fr} {H H':Heap} {nx C:Nat} (f:zFb P G call) (hm:zBe P G) (ad:P.follows .mixedOrders=true)
  (hc:zJ P (.region id ops true)=some (.draw xs ds)) (W:zD8 nt (.draw xs ds)=true) (h:zMa G call xs ds (fr,H,nx)=some (fr',H',C)):
  nx<=C/\∀(E:Env) (w:World) (a:Act) (Q:Exit->Act->World->Prop) (dl:List Deferred),HR E H w->FrR E w fr a nt->GR G E w->Fresh E nx C->a.defers=dl →
   (∀E' w' a',HR E' H' w'->Tr E H w E' H' w' nx C->FrR E' w' fr' a' nt->a'.defers=dl->Q .normal a' w')->(Code.region id ops true).wp P Q a w:=by
 simp only [zJ] at hc;split at hc
 ·rename_i af;split at hc
  ·rename_i hp;simp only [QJ,XC.draw.injEq] at hc;obtain ⟨rfl,rfl⟩:=hc;unfold zMa at h;split at h
   ·rename_i s hs;split at h
    ·rename_i ao;split at h
     ·rename_i m inc F B;simp only [QJ,Prod.mk.injEq] at h;obtain ⟨rfl,rfl,rfl⟩:=h;obtain ⟨st,U,y,e2⟩:=zKe hs;have X:(ops.toList.map (zp P ops)).length=ops.size:=by simp
      rw [X] at y;obtain ⟨b1,b2⟩:=zMQ (ops:=ops);have M:∀{j:Nat} {d:XD},(zipD ops P ops.toList (Region.before ops).toList)[j]? = some d->(Region.before ops)[j]? = some d.qc:=λ h=>by
       obtain ⟨m,a,b⟩:=zLw h;rw [b];simpa using a
      have ae:∀(O:List Oper) (F:List Nat),O.length=F.length->(zipD ops P O F).length=O.length:=by
       intro O
       induction O with
       | nil=>intro F _;simp [zipD]
       | cons o O Y=>intro F B;cases F with
        | nil=>simp at B
        | cons m F=>simp [zipD,Y F (by simpa using B)]
      have p:DRun.Ahead ops (zipD ops P ops.toList (Region.before ops).toList):=by
       intro j o d K S k A;obtain ⟨m,c1,c2⟩:=b2 j o K;have:=M S;rw [c1] at this;cases this;obtain ⟨e,N,J,h | ⟨m',h3,h4⟩⟩:=c2 k A
       ·exact ⟨e,N,J,.inl h⟩
       ·refine ⟨e,N,J,.inr ?_⟩
        have hl:e.on<(zipD ops P ops.toList (Region.before ops).toList).length:=by
         rw [ae _ _ (by simp [b1])]
         have:=(Array.getElem?_eq_some_iff.1 h3).1
         simpa [b1] using this
        refine ⟨_,QE hl,?_⟩
        have h5:=M (QE hl);have aj:(Region.before ops)[e.on]? = some m':=h3;rw [aj] at h5;rw [←Qu h5];exact h4
      have l:DRun.Down ops:=λ j o K e N J=>by
       have:=zKC af j o (by simpa using K) e N J
       omega
      have V:∀(j:Nat) (d:XD) (k:Nat),(zipD ops P ops.toList (Region.before ops).toList)[j]? = some d->d.qc.testBit k=true->k<j:=by
       intro j
       induction j using Nat.strongRecOn with
       | _ j Y=>
        intro d k S A;have u:j<ops.size:=by
         have:=(Array.getElem?_eq_some_iff.1 (M S)).1;omega
        obtain ⟨e,N,J,h | ⟨d',h3,h4⟩⟩:=p j _ d (Qe u) S k A
        ·rw [h];exact l j _ (Qe u) e N J
        ·have h5:=l j _ (Qe u) e N J;have:=Y e.on h5 d' k h3 h4;omega
      have q:∀{j:Nat} {o:Oper},ops[j]? = some o->(ops.toList.map (zp P ops))[j]? = some (zp P ops o):=λ h=>by simp [h]
      have R:DRun P G call ops (zipD ops P ops.toList (Region.before ops).toList) st H fr nx nt:=by
       refine ⟨λ j o K=>?_,U,λ j k oj ok dj dk ah u A ak ag=>?_,V,λ j o d K S=>?_,λ r T=>?_⟩
       ·obtain ⟨d,I,h2⟩:=e2 j _ (q K);exact ⟨d,I,by simpa using h2⟩
       ·have:=(zIV hp k _ dk (q A) ag).2 j _ dj ah (q u) ak
        simpa [zB8] using this
       ·have I:=QG.1 W _ (QF (q K));rw [zB8,S] at I
        simpa [Ql] using I
       ·rw [y] at T ⊢;exact QG.1 ao r T
      have ac:nx<=s.nx:=by
       have:=R.mono f.le (QR ops.size) (QB _);rw [U,y] at this;exact this
      refine ⟨ac,λ E w a Q dl T hf hg aq ai hQ=>?_⟩
      refine wp_region_any ad ?_
      obtain ⟨d1,d2⟩:=zGq (w':={ w with drawn:=w.drawn+1 }) T ⟨rfl,rfl,rfl,rfl⟩ nx
      refine DRun.any_order (dl:=dl) (E0:=E) (w0:={ w with drawn:=w.drawn+1 }) f hm R d1 (λ g v hv=>⟨d2.vr T (hg g v hv).1,(hg g v hv).2.mono d2.qn⟩) (by rw [y];exact aq) p l (λ L E' w' a' hL z=>?_) ops.size _ E a _ (by simp) ?_ ?_ ?_
      ·obtain ⟨m',ab,i1,i2,i3,i4⟩:=z.heap;rw [y] at i1 i3 i4;have low:=R.lows ops.size (QB _);rw [y] at low;have i5:some (m',ab)=some (m,inc):=by
        rw [←i1,B];exact zPL λ c hc=>hL _ (low.ch c hc)
       cases i5;have e3:within (λ j=>L j&&!inc.testBit j) s.al=within (λ j=>!inc.testBit j) s.al:=zDn λ x D=>by
        simp only [hL _ (low.al x D),Bool.true_and]
       rw [e3] at i3 i4;have e4:Tr E H { w with drawn:=w.drawn+1 } E' (within (λ j=>!inc.testBit j) s.al++m) w' nx s.nx:=by
        refine i4.uq ac λ h=>?_
        constructor
        ·rintro ⟨j,u,_,I,h2⟩
         have g1:=R.mono f.le (QR j) (Qh u);have g2:=R.mono f.le (i:=j+1) u (QB _);rw [U] at g1;rw [y] at g2;exact ⟨Qk g1 I,QZ h2 g2⟩
        ·rintro ⟨I,h2⟩
         have aa:∀n,n<=ops.size->h<(st n).nx->∃j,j<n/\(st j).nx<=h/\h<(st (j+1)).nx:=by
          intro n
          induction n with
          | zero=>intro _ hh;rw [U] at hh;exact absurd hh (by simpa using I)
          | succ n Y=>
           intro hn hh;by_cases D:h<(st n).nx
           ·obtain ⟨j,a,b⟩:=Y (by omega) D
            exact ⟨j,by omega,b⟩
           ·exact ⟨n,by omega,by omega,hh⟩
         obtain ⟨j,a,b⟩:=aa ops.size (QB _) (by rw [y];exact h2)
         exact ⟨j,a,hL j a,b⟩
       refine hQ E' w' a' i3 (d2.trans d1 e4) ⟨z.size,λ t v ht=>z.fr t v ?_⟩ z.defers
       rw [←ht,←y,←R.frames t ops.size (QB _)];refine zIo λ x D _=>?_
       have low:=R.lows ops.size (QB _);exact hL _ (low.tr x D)
      ·simp
      ·intro k dk A;rw [Array.getD_eq_getD_getElem?,Array.getElem?_replicate] at A;split at A <;> simp at A
      ·have hF:∀j,(Array.replicate ops.size false).getD j false=false:=λ j=>by
        rw [Array.getD_eq_getD_getElem?,Array.getElem?_replicate];split <;> rfl
       refine ⟨hf.size,ai,λ t v ht=>?_,H,0,?_,λ j u=>by simp at u,?_,?_⟩
       ·have:scan (λ j=>(Array.replicate ops.size false).getD j false) fr t (st ops.size).tr=fr.get t:=by
         have:=zJA (L:=λ j=>(Array.replicate ops.size false).getD j false) (fr0:=fr) (t:=t) (r:=[]) (nw:=(st ops.size).tr) λ x _ D=>by rw [hF] at D;cases D
         simpa [scan] using this
        rw [this] at ht;exact d2.vr T (hf.get t v ht)
       ·obtain ⟨nc,nm,k1,k2,k3,_⟩:=(R.last f.le (i:=0) (QR _)).ch;rw [k1,k2,zKB k3 λ c _=>hF _,U]
        rfl
       ·have:within (λ j=>(Array.replicate ops.size false).getD j false&&!Nat.testBit 0 j) (st ops.size).al=[]:=zD2 λ x _=>by rw [hF];rfl
        rw [this];exact d1
       ·have:within (λ j=>(Array.replicate ops.size false).getD j false&&!Nat.testBit 0 j) (st ops.size).al=[]:=zD2 λ x _=>by rw [hF];rfl
        rw [this];exact vG.vK (.refl nx) λ h=>⟨λ⟨j,_,u,_⟩=>by rw [hF] at u;(cases u),λ⟨a,b⟩=>by omega⟩
     ·cases h
    ·cases h
   ·cases h
  ·cases hc
 ·cases hc
end Go.Sy
namespace Go.Sy
def zPN:Ext->Exit
 | .normal=>.normal
 | .exit i=>.exit i
 | .ret=>.ret
section
variable {P:Program} {G:Cx} {call:Call} {nt:Nat}
theorem FrR.put {E E':Env} {w w':World} {fr:Fr} {a:Act} {d:Option Nat} {v:AV} {cv:Value} (b:FrR E w fr a nt) (hm:∀{v cv},VR E w v cv->VR E' w' v cv) (c:∀n,d=some n->n<nt) (g:VR E' w' v cv):FrR E' w' (qv fr d v) (a.put d cv) nt:=by
 cases d with
 | none=>exact ⟨b.size,λ t u h=>hm (b.get t u h)⟩
 | some n=>
  refine ⟨by rw [DRun.put_size];exact b.size,λ t u h=>?_⟩
  simp only [qv,Fr.qu] at h;have f:n<a.tmps.size:=by rw [b.size];exact c n rfl
  split at h
  ·rename_i e;subst e;cases h
   simpa [Act.put,f] using g
  ·rename_i e;have:(a.put (some n) cv).tmps.getD t undef=a.tmps.getD t undef:=by simp [Act.put,Array.getElem?_setIfInBounds_ne e]
   rw [this];exact hm (b.get t u h)
theorem GR.step {E E':Env} {H H':Heap} {w w':World} {a b:Nat} (e:HR E H w) (c:GR G E w) (t:Tr E H w E' H' w' a b):GR G E' w':=λ g v h=>⟨t.vr e (c g v h).1,(c g v h).2.mono t.qn⟩
end
end Go.Sy
namespace Go.Sy
section
variable {P:Program} {G:Cx} {E:Env} {w:World} {H:Heap} {nx:Nat}
theorem zLc (sz:Nat):∀(n:Nat) (cs:List AV),(chunks sz n cs).length=n
 | 0,_=>rfl
 | n+1,cs=>by simp only [chunks,QK,zLc sz n]
theorem zNE {fr:Fr} {a:Act} {nt:Nat} (s:HR E H w) (l:FrR E w fr a nt):∀{rs:List ResultVar} {xs:List XR} {vs:List AV},zHp P rs=some xs->ress H fr xs=some vs →
  ∃cvs:List Value,(rs.mapM (m:=Sem) λ| .tmp t=>pure (a.tmps.getD t undef) | .cell x t=>do loadVar t (←asAddr (a.tmps.getD x undef))).run P w=.ok cvs w/\VRs E w vs cvs
 | [],xs,vs,hc,h=>by
  simp only [zHp,QJ] at hc;subst hc;simp only [ress,QJ] at h;subst h;exact ⟨[],by simp,VRs.nil⟩
 | r::rs,xs,vs,hc,h=>by
  simp only [zHp] at hc;split at hc
  ·rename_i x y c j;cases hc;simp only [ress] at h;split at h
   ·rename_i v e;split at h
    ·rename_i C n;cases h;obtain ⟨cvs,p,u⟩:=zNE s l j n;cases r with
     | tmp t=>
      simp only [zOa,QJ] at c;subst c;exact ⟨_::cvs,by simp only [List.mapM_cons,Sem.run_bind,Sem.run_pure,Result.andThen_ok,p],VRs.cons (l.get t v e) u⟩
     | cell b t=>
      simp only [zOa] at c;obtain ⟨J,k,c⟩:=za c;obtain ⟨K,g,c⟩:=za c;cases c;simp only [zPh] at e;split at e
      ·rename_i A f;obtain ⟨q,z,D,B,F⟩:=zNt (P:=P) s (l.get b A f) k g e;have I:(asAddr (.pointer (some q))).run P w=.ok q w:=by simp [asAddr]
       refine ⟨z::cvs,?_,VRs.cons F u⟩
       simp only [List.mapM_cons,Sem.run_bind,D,I,Sem.run_pure,Result.andThen_ok,B,p]
      ·cases e
    ·cases h
   ·cases h
  ·cases hc
def zNF:List Value->Value
 | [v]=>v
 | b=>.tuple b.toArray
theorem zLd {fr:Fr} {a:Act} {nt:Nat} {fn:Func} {xs:List XR} {vs:List AV} (n:HR E H w) (m:FrR E w fr a nt) (hc:zHp P fn.results.toList=some xs) (h:ress H fr xs=some vs):
  ∃cv,(results fn a.tmps).run P w=.ok cv w/\VR E w (zCM vs) cv:=by
 obtain ⟨b,j,g⟩:=zNE n m hc h;unfold results;rw [Array.mapM_eq_mapM_toList];refine ⟨zNF b,?_,?_⟩
 ·rw [Sem.run_bind,Sem.run_map];refine (congrArg (λ r=>Result.andThen (Result.andThen r _) _) j).trans ?_
  rw [Result.andThen_ok,Result.andThen_ok];cases b with
  | nil=>simp [zNF]
  | cons v r=>cases r with
   | nil=>simp [zNF]
   | cons u r=>simp [zNF]
 ·cases vs with
  | nil=>
   rw [g.of_nil];exact VR.qJ (vs:=#[]) VRs.nil
  | cons v r=>
   obtain ⟨cv,q,rfl,f,e⟩:=g.of_cons;cases r with
   | nil=>rw [e.of_nil];exact f
   | cons u r=>
    obtain ⟨l,c,rfl,p,k⟩:=e.of_cons;exact VR.qJ (vs:=(cv::l::c).toArray) (VRs.cons f (VRs.cons p k))
theorem zLx:∀{n:Nat} {args:List AV} {t:Nat} {v:AV},(qF n args).get t=some v->∃i,t=n+i/\args[i]? = some v
 | n,[],t,v,h=>by simp [qF,Fr.get] at h
 | n,x::r,t,v,h=>by
  simp only [qF,Fr.get] at h;split at h
  ·rename_i e;cases h;exact ⟨0,by rw [←zb e];rfl,rfl⟩
  ·obtain ⟨i,e,h⟩:=zLx h;exact ⟨i+1,by omega,by simpa using h⟩
end
end Go.Sy
namespace Go.Sy
open Go.ChangeShapes
structure Kept (W W':World):Prop where
 kept:∀S:MemPlace->Prop,W.keptBut W' S
 frozen:∀a:Addr,a.block<W.heap.size->W'.frozen? a=W.frozen? a
 size:W.heap.size<=W'.heap.size
 heap:∀b,b<W.heap.size->W'.heap[b]? = W.heap[b]?
 below:RowKit.Below W.heap.size W W'
theorem Kept.vK {E E':Env} {H':Heap} {W c:World} {a b:Nat} (t:Tr E [] W E' H' c a b):Kept W c:=by
 have h:∀b,b<W.heap.size->c.heap[b]? = W.heap[b]?:=λ b e=>t.wa b e λ p f=>by simp at f
 refine ⟨λ S=>⟨t.os,t.output,λ i g=>?_⟩,λ a j=>?_,t.size,h,⟨t.os,t.tape,t.output,t.size,h⟩⟩
 ·rw [h i g];cases W.heap[i]? with
  | none=>rfl
  | some o=>cases o <;> simp
 ·simp only [World.frozen?,h a.block j]
theorem zSM {H:Type} {enc:TypeId×Value->H} {P:Program} {f:Func} {s:ChangeSpec} {k fresh e n:Bool} {W y:World} {args:Array Value} {v:Value} {ds gs:List (DataW H)} {c pa pv:List MemPlace}
  (A:DataW.Whole enc P f.params.toList s.vars k W args.toList ds gs c)
  (m:∀(b:Nat) (q:Nat->Bool) (F:Bool),DataW.TrodAll enc P y b q F f.resultTypes.toList (v.resultList f.resultTypes.size) (s.fn H (ds++gs)).results [])
  (g:∀q:Nat->Bool,(∀p∈c,q p.block=true)->DataW.TrodAll enc P y 0 q true f.params.toList args.toList (s.fn H (ds++gs)).args pa)
  (h:∀q:Nat->Bool,(∀p∈c,q p.block=true)->DataW.TrodVars enc P y q s.vars (s.fn H (ds++gs)).vars pv)
  (x:c=pa++pv) (D:Kept W y)
  (C:∀(j:Nat) (t:TypeId) (r:Value),f.resultTypes[j]? = some t->(v.resultList f.resultTypes.size)[j]? = some r->Value.okWide P y .any 0 t r):
  s.post enc P f k fresh e n W args v y:=by
 have l:∀p∈c,(λ b=>decide (b<W.heap.size)) p.block=true:=λ p u=>by simpa using A.lt p u
 have B:=λ p u=>A.lt p u
 refine ⟨ds,gs,c,[],pa,pv,A,m _ _ _,g _ l,h _ l,D.kept _,λ _=>?_⟩
 obtain ⟨_,_,_,_,_,I,J⟩:=A;refine ⟨C,_,_,([]++pa)++pv,⟨[]++pa,pv,trodAll_append (g _ (λ _ _=>rfl)) (m _ _ _),h _ (λ _ _=>rfl),rfl,?_,?_⟩,?_⟩
 ·intro b off u;have z:MemPlace.cell b off∈c:=by rw [x];simpa using u
  rw [D.frozen _ (B _ z)];exact I b off z
 ·intro K;have:=J K;rw [x] at this
  simpa using this
 ·intro p u _;rw [x]
  simpa using u
def Env.still (W:World) (σ:Nat->Value:=λ _=>.bool true):Env:=⟨id,λ _=>False,λ b=>b<W.heap.size,σ⟩
theorem HR.still (W:World) (σ:Nat->Value:=λ _=>.bool true):HR (Env.still W σ) [] W:=
 ⟨.nil,λ p b=>by simp at b,λ p b=>by simp at b,λ p b=>by simp at b,λ p b=>by simp at b,λ _ c=>c⟩
theorem zRS {P:Program} {G:Cx} {f:FuncId} {args:List AV} {cargs:Array Value} {n:Nat} {H':Heap} {W:World} {σ:Nat->Value} (g:FnT P G f args [] 0 (.bool true) H' n) (l:VRs (Env.still W σ) W args cargs.toList) (j:GR G (Env.still W σ) W):
  Calls P f cargs W λ e b=>e=.returned (.bool true)/\Kept W b:=by
 refine (g (Env.still W σ) W cargs (.still W σ) l j λ _ _ _ h=>h).mono λ e b h=>?_
 obtain ⟨m,p,rfl,q,c,k⟩:=h;rw [k.of_bool];exact ⟨rfl,.vK c⟩
end Go.Sy
namespace Go.Sy
set_option maxRecDepth 4000
inductive L8 where
 | mk (a b c d e f g h:AV)
inductive FF where
 | mk (m0 m1 m2 m3 m4 m5 m6 m7 m8 m9 m10 m11 m12 m13 m14 m15:L8) (more:Fr)
inductive R where
 | fail
 | norm (f:FF) (H:Heap) (nx:Nat)
 | exit (i:Nat) (f:FF) (H:Heap) (nx:Nat)
 | ret (f:FF) (H:Heap) (nx:Nat)
 | out (v:AV) (H:Heap) (nx:Nat)
noncomputable section
end
end Go.Sy
namespace Go.Sy
set_option maxRecDepth 8000
def zHS:Option XV->List XV
 | none=>[]
 | some x=>[x]
def XO.qb:XO->List XV
 | .bad =>[]
 | .vt x=>[x]
 | .pick c a b=>[c]++[a]++[b]
 | .bin _ x y=>[x]++[y]
 | .beq _ x y=>[x]++[y]
 | .vH _ x y=>[x]++[y]
 | .wC _ _ x y=>[x]++[y]
 | .vI _ _ _ x y=>[x]++[y]
 | .seq _ x y=>[x]++[y]
 | .vO _ x y=>[x]++[y]
 | .vN _ x y=>[x]++[y]
 | .un _ x=>[x]
 | .conv _ x=>[x]
 | .vu x=>[x]
 | .vb x=>[x]
 | .vV x=>[x]
 | .mark x=>[x]
 | .w3 x c=>[x]++[c]
 | .w4 x c=>[x]++[c]
 | .vS x _ _ _=>[x]
 | .ext x _=>[x]
 | .wF x i=>[x]++[i]
 | .qY x i _ _ _=>[x]++[i]
 | .box x _=>[x]
 | .alloc _=>[]
 | .build _ j=>j.map (·.2.2)
 | .qD _ _ _ j=>j.map (·.2.2)
 | .load x _ _=>[x]
 | .store a x _=>[a]++[x]
 | .wo x=>[x]
 | .qP x _=>[x]
 | .qB x i _=>[x]++[i]
 | .qy x i _ _=>[x]++[i]
 | .wA x h e=>[x]++zHS h++zHS e
 | .wu x h e n _=>[x]++zHS h++zHS e++zHS n
 | .vA x h e _ _=>[x]++zHS h++zHS e
 | .w7 x=>[x]
 | .wi x=>[x]
 | .vD x=>[x]
 | .wL _=>[]
 | .cap x=>[x]
 | .append x y _ _=>[x]++[y]
 | .copy x y _=>[x]++[y]
 | .vM x _ _=>[x]
 | .vP x=>[x]
 | .min x y=>[x]++[y]
 | .max x y=>[x]++[y]
 | .qK l c _ _ _=>[l]++[c]
 | .wj =>[]
 | .lookup _ _ m k _ _=>[m]++[k]
 | .wB _ _ m k v=>[m]++[k]++[v]
 | .del _ _ m k=>[m]++[k]
 | .q9 _ first g=>first++g
 | .wM _ x=>[x]
 | .vF x _ _ _=>[x]
 | .vB x=>[x]
 | .vg x=>[x]
 | .call _ args=>args
 | .qL f args=>[f]++args
 | .invoke r _ args=>[r]++args
theorem zDi {G:Cx} {b c:Fr}:∀{l:List XV},(∀x∈l,x.ev G b=x.ev G c)->evs G b l=evs G c l
 | [],_=>rfl
 | x::r,h=>by simp only [evs,h x (.head _),zDi λ y e=>h y (.tail _ e)]
theorem zCB {G:Cx} {b c:Fr} {x:Option XV} (h:∀y∈zHS x,y.ev G b=y.ev G c):evo G b x=evo G c x:=by
 cases x with
 | none=>rfl
 | some y=>simp only [evo,h y (.head _)]
theorem zHI {G:Cx} {e c:Fr}:∀{f:List (Nat×Nat×XV)} {cs:List AV},(∀x∈f.map (·.2.2),x.ev G e=x.ev G c)->fillx G e cs f=fillx G c cs f
 | [],_,_=>rfl
 | (a,b,x)::r,cs,h=>by
  simp only [fillx,h x (.head _)];cases x.ev G c with
  | none=>rfl
  | some v=>
   simp only;cases cellsOf v b with
   | none=>rfl
   | some new=>
    simp only;cases Nat.ble (a+b) cs.length with
    | false=>rfl
    | true=>exact zHI λ y g=>h y (.tail _ g)
theorem zPO {G:Cx} {call:Call} {p j:Fr} {H:Heap} {nx:Nat} {o:XO} (h:∀x∈o.qb,x.ev G p=x.ev G j):xo G call p H nx o=xo G call j H nx o:=by
 rw [zGK,zGK];cases o with
 | bad =>rfl
 | vt x=>
  have e:=h x (by simp [XO.qb])
  simp only [xoS,e]
 | pick c a b=>
  have e:=h c (by simp [XO.qb])
  have g:=h a (by simp [XO.qb])
  have u:=h b (by simp [XO.qb])
  simp only [xoS,e,g,u]
 | bin op x y=>
  have e:=h x (by simp [XO.qb])
  have g:=h y (by simp [XO.qb])
  simp only [xoS,e,g]
 | beq neg x y=>
  have e:=h x (by simp [XO.qb])
  have g:=h y (by simp [XO.qb])
  simp only [xoS,e,g]
 | vH neg x y=>
  have e:=h x (by simp [XO.qb])
  have g:=h y (by simp [XO.qb])
  simp only [xoS,e,g]
 | wC neg I x y=>
  have e:=h x (by simp [XO.qb])
  have g:=h y (by simp [XO.qb])
  simp only [xoS,e,g]
 | vI neg lit M x y=>
  have e:=h x (by simp [XO.qb])
  have g:=h y (by simp [XO.qb])
  simp only [xoS,e,g]
 | seq neg x y=>
  have e:=h x (by simp [XO.qb])
  have g:=h y (by simp [XO.qb])
  simp only [xoS,e,g]
 | vO neg x y=>
  have e:=h x (by simp [XO.qb])
  have g:=h y (by simp [XO.qb])
  simp only [xoS,e,g]
 | vN neg x y=>
  have e:=h x (by simp [XO.qb])
  have g:=h y (by simp [XO.qb])
  simp only [xoS,e,g]
 | un op x=>
  have e:=h x (by simp [XO.qb])
  simp only [xoS,e]
 | conv N x=>
  have e:=h x (by simp [XO.qb])
  simp only [xoS,e]
 | vu x=>
  have e:=h x (by simp [XO.qb])
  simp only [xoS,e]
 | vb x=>
  have e:=h x (by simp [XO.qb])
  simp only [xoS,e]
 | vV x=>
  have e:=h x (by simp [XO.qb])
  simp only [xoS,e]
 | mark x=>
  have e:=h x (by simp [XO.qb])
  simp only [xoS,e]
 | w3 x c=>
  have e:=h x (by simp [XO.qb])
  have g:=h c (by simp [XO.qb])
  simp only [xoS,e,g]
 | w4 x c=>
  have e:=h x (by simp [XO.qb])
  have g:=h c (by simp [XO.qb])
  simp only [xoS,e,g]
 | vS x off s F=>
  have e:=h x (by simp [XO.qb])
  simp only [xoS,e]
 | ext x i=>
  have e:=h x (by simp [XO.qb])
  simp only [xoS,e]
 | wF x i=>
  have e:=h x (by simp [XO.qb])
  have g:=h i (by simp [XO.qb])
  simp only [xoS,e,g]
 | qY x i len s F=>
  have e:=h x (by simp [XO.qb])
  have g:=h i (by simp [XO.qb])
  simp only [xoS,e,g]
 | box x s=>
  have e:=h x (by simp [XO.qb])
  simp only [xoS,e]
 | alloc z=>rfl
 | build z D=>
  have e:fillx G p z D=fillx G j z D:=zHI λ y q=>h y (by simpa [XO.qb] using q)
  simp only [xoS,e]
 | qD len s z D=>
  have e:fillx G p z D=fillx G j z D:=zHI λ y q=>h y (by simpa [XO.qb] using q)
  simp only [xoS,e]
 | load x s F=>
  have e:=h x (by simp [XO.qb])
  simp only [xoS,e]
 | store a x s=>
  have e:=h a (by simp [XO.qb])
  have g:=h x (by simp [XO.qb])
  simp only [xoS,e,g]
 | wo x=>
  have e:=h x (by simp [XO.qb])
  simp only [xoS,e]
 | qP x off=>
  have e:=h x (by simp [XO.qb])
  simp only [xoS,e]
 | qB x i s=>
  have e:=h x (by simp [XO.qb])
  have g:=h i (by simp [XO.qb])
  simp only [xoS,e,g]
 | qy x i len s=>
  have e:=h x (by simp [XO.qb])
  have g:=h i (by simp [XO.qb])
  simp only [xoS,e,g]
 | wA x A B=>
  have e:=h x (by simp [XO.qb])
  have g:evo G p A=evo G j A:=zCB λ y q=>h y (by simp [XO.qb,q])
  have u:evo G p B=evo G j B:=zCB λ y q=>h y (by simp [XO.qb,q])
  simp only [xoS,e,g,u]
 | wu x A B J s=>
  have e:=h x (by simp [XO.qb])
  have g:evo G p A=evo G j A:=zCB λ y q=>h y (by simp [XO.qb,q])
  have u:evo G p B=evo G j B:=zCB λ y q=>h y (by simp [XO.qb,q])
  have K:evo G p J=evo G j J:=zCB λ y q=>h y (by simp [XO.qb,q])
  simp only [xoS,e,g,u,K]
 | vA x A B len s=>
  have e:=h x (by simp [XO.qb])
  have g:evo G p A=evo G j A:=zCB λ y q=>h y (by simp [XO.qb,q])
  have u:evo G p B=evo G j B:=zCB λ y q=>h y (by simp [XO.qb,q])
  simp only [xoS,e,g,u]
 | w7 x=>
  have e:=h x (by simp [XO.qb])
  simp only [xoS,e]
 | wi x=>
  have e:=h x (by simp [XO.qb])
  simp only [xoS,e]
 | vD x=>
  have e:=h x (by simp [XO.qb])
  simp only [xoS,e]
 | wL n=>rfl
 | cap x=>
  have e:=h x (by simp [XO.qb])
  simp only [xoS,e]
 | append x y s bytes=>
  have e:=h x (by simp [XO.qb])
  have g:=h y (by simp [XO.qb])
  simp only [xoS,e,g]
 | copy x y s=>
  have e:=h x (by simp [XO.qb])
  have g:=h y (by simp [XO.qb])
  simp only [xoS,e,g]
 | vM x s z=>
  have e:=h x (by simp [XO.qb])
  simp only [xoS,e]
 | vP x=>
  have e:=h x (by simp [XO.qb])
  simp only [xoS,e]
 | min x y=>
  have e:=h x (by simp [XO.qb])
  have g:=h y (by simp [XO.qb])
  simp only [xoS,e,g]
 | max x y=>
  have e:=h x (by simp [XO.qb])
  have g:=h y (by simp [XO.qb])
  simp only [xoS,e,g]
 | qK l c s bytes z=>
  have e:=h l (by simp [XO.qb])
  have g:=h c (by simp [XO.qb])
  simp only [xoS,e,g]
 | wj =>rfl
 | lookup F I m k z ok=>
  have e:=h m (by simp [XO.qb])
  have g:=h k (by simp [XO.qb])
  simp only [xoS,e,g]
 | wB F I m k v=>
  have e:=h m (by simp [XO.qb])
  have g:=h k (by simp [XO.qb])
  have u:=h v (by simp [XO.qb])
  simp only [xoS,e,g,u]
 | del F I m k=>
  have e:=h m (by simp [XO.qb])
  have g:=h k (by simp [XO.qb])
  simp only [xoS,e,g]
 | q9 fn first C=>
  have e:evs G p first=evs G j first:=zDi λ y q=>h y (by simp [XO.qb,q])
  have g:evs G p C=evs G j C:=zDi λ y q=>h y (by simp [XO.qb,q])
  simp only [xoS,e,g]
 | wM t x=>
  have e:=h x (by simp [XO.qb])
  simp only [xoS,e]
 | vF x t ok z=>
  have e:=h x (by simp [XO.qb])
  simp only [xoS,e]
 | vB x=>
  have e:=h x (by simp [XO.qb])
  simp only [xoS,e]
 | vg x=>
  have e:=h x (by simp [XO.qb])
  simp only [xoS,e]
 | call f args=>
  have e:evs G p args=evs G j args:=zDi λ y q=>h y (by simp [XO.qb,q])
  simp only [xoS,e]
 | qL f args=>
  have e:=h f (by simp [XO.qb])
  have g:evs G p args=evs G j args:=zDi λ y q=>h y (by simp [XO.qb,q])
  simp only [xoS,e,g]
 | invoke r m args=>
  have e:=h r (by simp [XO.qb])
  have g:evs G p args=evs G j args:=zDi λ y q=>h y (by simp [XO.qb,q])
  simp only [xoS,e,g]
noncomputable section
variable {nt:Nat->Bool} {G:Cx}
def zIp:List XV->List Nat
 | []=>[]
 | .t n::r=>n::zIp r
 | _::r=>zIp r
theorem zEo {n:Nat}:∀{l:List XV},XV.t n∈l->n∈zIp l
 | .t m::r,h=>by
  rcases QH.1 h with h | h
  ·cases h;exact .head _
  ·exact .tail _ (zEo h)
 | .c v::r,h=>by
  rcases QH.1 h with h | h
  ·cases h
  ·exact zEo (l:=r) h
 | .g v::r,h=>by
  rcases QH.1 h with h | h
  ·cases h
  ·exact zEo (l:=r) h
end
end Go.Sy
