/- A LIBRARY: WHAT A FUNCTION'S CODE RECKONS, AS A LEAN FUNCTION, AND THAT ITS WORD IS THE MODEL'S: part 2 of 6. No condition. -/
import Derived.Test.YtdeeimaahdgeaaaGreatDoorFxA
import Derived.Laws.Build
import Derived.Lib.Bytealg
import Derived.Deep.LoopGhost
import Derived.Scope
import Derived.ChangeSame
import Derived.ChangeShapes
import Derived.ChangeAt
import Derived.KernelRfl
import Derived.Below
set_option linter.unusedVariables false
set_option linter.unusedSimpArgs false
namespace Go.Sy
section
variable {P:Program} {G:Cx} {E:Env} {w:World} {fr:Fr} {a:Act} {nt:Nat} {H:Heap} {nx:Nat}
theorem zNn {ps:Array (Nat×Operand)}:(ps.map fun (i,x)=>(i,a.eval x)).toList=ps.toList.map fun (i,x)=>(i,a.eval x):=by simp
theorem zLu:∀{l:List Field},(∀f∈l,∃s,zA P f.type=some s)->∃qs:List (Nat×Nat),(l.mapM fun f=>do pure (f.offset,←sizeOf f.type):Sem (List (Nat×Nat))).run P w=.ok qs w/\qs.length=l.length ∧
  ∀(i:Nat) f,l[i]? = some f->∃s,zA P f.type=some s/\qs[i]? = some (f.offset,s)
 | [],_=>⟨[],by simp,rfl,fun i f h=>by simp at h⟩
 | f::l,h=>by
  obtain ⟨s,hs⟩:=h f (.head _);obtain ⟨qs,h1,h2,h3⟩:=zLu (l:=l) (fun f hf=>h f (.tail _ hf))
  refine ⟨(f.offset,s)::qs,?_,by simp [h2],fun i g hg=>?_⟩
  ·simp only [List.mapM_cons,Sem.run_bind,zAd hs,Result.andThen_ok,Sem.run_pure,h1]
  ·cases i with
   | zero=>simp at hg;subst hg;exact ⟨s,hs,rfl⟩
   | succ i=>simpa using h3 i g (by simpa using hg)
theorem zNo {p1 p2:Nat->Option (Nat×Nat)} (h:∀i o s,p1 i=some (o,s)->p2 i=some (o,s)):∀{ps:List (Nat×Operand)} {qs:List (Nat×Nat×XV)},cparts p1 ps=some qs->cparts p2 ps=some qs
 | [],qs,hc=>by simpa [cparts] using hc
 | (i,x)::r,qs,hc=>by
  simp only [cparts] at hc ⊢;split at hc
  ·rename_i off sz y s e1 e2 e3;rw [h _ _ _ e1,e2,zNo h e3];exact hc
  ·cases hc
theorem zPM (hr:HR E H w) (hf:FrR E w fr a nt) (hg:GR G E w) {v:AV} {H':Heap} {nx':Nat} {o:Oper} {xop:XO} {call:Sy.Call} (hnc:∀c,o.op≠.call c) (hc:zAA P o.op=some xop)
  (hfr:Fresh E nx nx') (h:xoS G call fr H nx xop=some (v,H',nx')):Done P E H w nx (execOp a.eval o) v H' nx':=by
 have ev:∀{x:Operand} {ax:XV} {p:AV},copd x=some ax->ax.ev G fr=some p->VR E w p (a.eval x):=fun h1 h2=>zu hf hg h1 h2
 have vv:∀{s:Sem Value} {r:Value} {w':World},(execOp a.eval o=do pure (.value (←s)))->s.run P w=.ok r w'->(execOp a.eval o).run P w=.ok (.value r) w':=fun h1 h2=>by
  rw [h1];simp [h2]
 have uu:∀{s:Sem Unit} {w':World},(execOp a.eval o=do s;pure .skip)->s.run P w=.ok () w'->(execOp a.eval o).run P w=.ok .skip w':=fun h1 h2=>by
  rw [h1];simp [h2]
 have hmov:∀{x:Operand},(o.op=.move x\/o.op=.assign x)->(∃ax,copd x=some ax/\xop=.mov ax)->Done P E H w nx (execOp a.eval o) v H' nx':=by
  rintro x ho ⟨ax,hax,e⟩
  rw [e] at h;simp only [xoS] at h;split at h
  ·rename_i p hp;cases h;exact .pure hr (by rcases ho with ho | ho <;> simp [execOp,ho]) (ev hax hp)
  ·cases h
 have hupd:∀{t:TypeId} {m k x:Operand},(execOp a.eval o=do Instr.mapUpdate t (a.eval m) (a.eval k) (a.eval x);pure .skip) →
   (obind (copd m) fun m=>obind (copd k) fun k=>obind (copd x) fun v=>match P.underlying t with
    | some (.map kt _)=>obind (keyT P kt) fun q=>some (XO.mupd q.1 q.2 m k v)
    | _=>none)=some xop->Done P E H w nx (execOp a.eval o) v H' nx':=by
  intro t m k x he hc;obtain ⟨am,ham,hc⟩:=za hc;obtain ⟨ak,hak,hc⟩:=za hc;obtain ⟨ax,hax,hc⟩:=za hc;split at hc
  ·rename_i kt et hut;obtain ⟨q,hq,hc⟩:=za hc;cases hc;unfold keyT at hq;obtain ⟨ks,hks,hq⟩:=za hq;obtain ⟨ag,hag,hq⟩:=za hq;cases hq;simp only [xoS] at h;split at h
   ·rename_i hd vk vx hm hk hx;split at h
    ·cases h
    rename_i hok;split at h
    ·rename_i es hget;split at h
     ·rename_i es' hes;cases h;obtain ⟨w',r1,r2,r3⟩:=zQj (P:=P) (nx:=nx) hr hut hks hag (ev ham hm) (ev hak hk) (ev hax hx) hok hget hes;exact .of_unit (s:=Instr.mapUpdate t (a.eval m) (a.eval k) (a.eval x)) ⟨w',r1,r2,r3⟩ fun w' h=>uu he h
     ·cases h
    ·cases h
   ·cases h
  ·cases hc
 cases ho:o.op with
 | move x=>rw [ho] at hc;obtain ⟨ax,hax,hc⟩:=za hc;cases hc;exact hmov (.inl ho) ⟨ax,hax,rfl⟩
 | assign x=>rw [ho] at hc;obtain ⟨ax,hax,hc⟩:=za hc;cases hc;exact hmov (.inr ho) ⟨ax,hax,rfl⟩
 | pick c x y=>
  rw [ho] at hc;obtain ⟨ac,hac,hc⟩:=za hc;obtain ⟨ax,hax,hc⟩:=za hc;obtain ⟨ay,hay,hc⟩:=za hc;cases hc;simp only [xoS] at h;split at h
  ·rename_i hb;split at h
   ·rename_i p hp;cases h;have e1:=(ev hac hb).of_bool;exact .pure hr (by simp [execOp,ho,e1,asBool]) (ev hax hp)
   ·cases h
  ·rename_i hb;split at h
   ·rename_i p hp;cases h;have e1:=(ev hac hb).of_bool;exact .pure hr (by simp [execOp,ho,e1,asBool]) (ev hay hp)
   ·cases h
  ·cases h
 | alloc e=>
  rw [ho] at hc;obtain ⟨z,hz,hc⟩:=za hc;cases hc;cases h;exact .of_sem (zPp (P:=P) hr (hfr nx (Nat.le_refl _) (by omega)) hz) fun r w' h=>vv (by simp only [execOp,ho]) h
 | box e x=>
  rw [ho] at hc;obtain ⟨ax,hax,hc⟩:=za hc;obtain ⟨s,hs,hc⟩:=za hc;cases hc;simp only [xoS] at h;split at h
  ·rename_i p hp;split at h
   ·rename_i cs hcs;cases h;exact .of_sem (zRl (P:=P) (e:=e) hr (hfr nx (Nat.le_refl _) (by omega)) (ev hax hp) hcs) fun r w' h=>vv (by simp only [execOp,ho]) h
   ·cases h
  ·cases h
 | build t ps=>
  rw [ho] at hc;obtain ⟨z,hz,hc⟩:=za hc;obtain ⟨i,cz,hi,hcz,hzs,hsi,hzl,h2,h3⟩:=VR.zero (P:=P) (E:=E) (w:=w) (z:=.bool true) (v:=.bool true) (n:=0) hz;have hzv:(zeroValue t).run P w=.ok cz w:=by simp [zeroValue,typeInfo,hi,hcz]
  have fin:∀{qs:List (Nat×Nat×XV)} {place:Nat->Option (Nat×Nat)},xop=.build z qs->cparts place ps.toList=some qs →
    (∀cells',Instr.fill place cz.cells (ps.toList.map fun (i,x)=>(i,a.eval x))=some cells'->(Instr.build t (ps.map fun (i,x)=>(i,a.eval x))).run P w=.ok (.agg cells') w)->Done P E H w nx (execOp a.eval o) v H' nx':=by
   intro qs place e1 e2 e3;rw [e1] at h;simp only [xoS] at h;split at h
   ·rename_i cs hcs;cases h;obtain ⟨cells',r1,r2,r3,r4⟩:=zJm hf hg e2 hcs h2 h3;exact .of_pure (s:=Instr.build t (ps.map fun (i,x)=>(i,a.eval x))) hr ⟨_,e3 _ r1,VR.mk_agg r2 r3⟩ fun r w' h=>vv (by simp only [execOp,ho]) h
   ·cases h
  split at hc
  ·rename_i fs hut;split at hc
   ·rename_i hall;obtain ⟨qs,hqs,hc⟩:=za hc;cases hc;obtain ⟨pl,p1,p2,p3⟩:=zLu (P:=P) (w:=w) (l:=fs.toList) fun f hf=>by
     have:=List.all_eq_true.1 hall f hf;exact Option.isSome_iff_exists.1 this
    have hqs':cparts (pl[·]?) ps.toList=some qs:=zNo (fun i off sz hi=>by
     obtain ⟨f,hf,hi⟩:=za hi;obtain ⟨s,hs,hi⟩:=za hi;cases hi;obtain ⟨s',q1,q2⟩:=p3 i f (by simpa using hf)
     rw [hs] at q1;cases q1;exact q2) hqs
    refine fin rfl hqs' fun cells' hfill=>?_
    have hm:(fs.mapM fun f=>do pure (f.offset,←sizeOf f.type):Sem (Array (Nat×Nat))).run P w=.ok pl.toArray w:=by
     rw [Array.mapM_eq_mapM_toList];simp only [Sem.run_map,p1,Result.andThen_ok]
    simp only [Instr.build,Sem.run_bind,hzv,run_underlying hut,Result.andThen_ok,hm];rw [zNn];simp only [List.getElem?_toArray];rw [hfill];rfl
   ·cases hc
  ·rename_i n e hut;obtain ⟨s,hs,hc⟩:=za hc;obtain ⟨qs,hqs,hc⟩:=za hc;cases hc;refine fin rfl hqs fun cells' hfill=>?_
   simp only [Instr.build,Sem.run_bind,hzv,run_underlying hut,Result.andThen_ok,zAd hs];rw [zNn,hfill];rfl
  ·cases hc
 | buildSlice t n ps=>
  rw [ho] at hc;simp only [zAA] at hc;split at hc
  ·rename_i e hut;obtain ⟨s,hs,hc⟩:=za hc;obtain ⟨z,hz,hc⟩:=za hc;cases s with
   | zero=>cases hc
   | succ s=>
    simp only at hc;split at hc
    ·rename_i hle;obtain ⟨qs,hqs,hc⟩:=za hc;cases hc;simp only [xoS] at h;split at h
     ·rename_i cs hcs;cases h;refine .of_sem (zOr (P:=P) hf hg hr (hfr nx (Nat.le_refl _) (by omega)) hut hs hz (Nat.succ_pos _) (Nat.le_of_ble_eq_true hle) hqs hcs) fun r w' h=>vv (by
       simp only [execOp,ho];congr 2;apply Array.ext';simp) h
     ·cases h
    ·cases hc
  ·cases hc
 | insert t m k x=>rw [ho] at hc;exact hupd (by simp only [execOp,ho]) hc
 | mapUpdate t m k x=>rw [ho] at hc;exact hupd (by simp only [execOp,ho]) hc
 | load t x=>
  rw [ho] at hc;obtain ⟨ax,hax,hc⟩:=za hc;obtain ⟨s,hs,hc⟩:=za hc;obtain ⟨g,hag,hc⟩:=za hc;cases hc;simp only [xoS] at h;split at h
  ·rename_i p hp;split at h
   ·rename_i u hu;cases h;obtain ⟨ad,cv,e1,r1,r2⟩:=zMj (P:=P) hr (ev hax hp) hs hag hu;refine .of_pure (s:=Instr.loadAt t (a.eval x)) hr ⟨cv,?_,r2⟩ fun r w' h=>vv (by simp only [execOp,ho]) h
    rw [e1];simp [Instr.loadAt,Instr.sureAddr,r1]
   ·cases h
  ·cases h
 | store t x y=>
  rw [ho] at hc;obtain ⟨ax,hax,hc⟩:=za hc;obtain ⟨ay,hay,hc⟩:=za hc;obtain ⟨s,hs,hc⟩:=za hc;cases hc;simp only [xoS] at h;split at h
  ·rename_i hd off p hx hp;split at h
   ·rename_i st cs hget;split at h
    ·rename_i new hnew;split at h
     ·rename_i hle;cases h;obtain ⟨e1,_⟩:=(ev hax hx).of_ptr;obtain ⟨w',r1,r2,r3⟩:=zPm (P:=P) hr (ev hay hp) hs hget hnew (Nat.le_of_ble_eq_true hle) nx;refine .of_unit (s:=Instr.storeAt t (a.eval x) (a.eval y)) ⟨w',?_,r2,r3⟩ fun w' h=>uu (by simp only [execOp,ho]) h
      rw [e1];simp [Instr.storeAt,Instr.sureAddr,r1]
     ·cases h
    ·cases h
   ·cases h
  ·cases h
 | nilCheck x=>
  rw [ho] at hc;obtain ⟨ax,hax,hc⟩:=za hc;cases hc;simp only [xoS] at h;split at h
  ·rename_i hp;cases h;have hv:=ev hax hp;have e1:=hv.of_ptr.1;exact .pure hr (by simp only [execOp,ho,e1];rfl) (e1▸hv)
  ·rename_i hp;cases h;have hv:=ev hax hp;obtain ⟨b,c,u,e1,_⟩:=hv.of_eptr;exact .pure hr (by simp only [execOp,ho,e1];rfl) (e1▸hv)
  ·rename_i t' v' hp;cases h;have hv:=ev hax hp;obtain ⟨cv,e1⟩:∃cv,a.eval x=.iface t' cv:=by
    generalize a.eval x=cx at hv;cases hv;exact ⟨_,rfl⟩
   exact .pure hr (by simp only [execOp,ho,e1];rfl) (e1▸hv)
  ·rename_i hp;cases h;have hv:=ev hax hp;obtain ⟨u1,u2,e1⟩:=hv.func_some;exact .pure hr (by simp only [execOp,ho,e1];rfl) (e1▸hv)
  ·cases h
 | binOp op t x y u=>rw [ho] at hc;exact zSC hr hf hg ho hc h
 | unOp op t x=>
  rw [ho] at hc;obtain ⟨ax,hax,hc⟩:=za hc;cases hc;simp only [xoS] at h;split at h
  ·rename_i p hp;split at h
   ·rename_i r hr2;cases h;exact .of_pure (s:=Op.unary op (a.eval x)) hr (zSz (P:=P) (ev hax hp) hr2) fun r w' h=>vv (by simp only [execOp,ho]) h
   ·cases h
  ·cases h
 | convert s d x=>rw [ho] at hc;exact zRo hr hf hg ho hc hfr h
 | makeInterface t x=>
  rw [ho] at hc;obtain ⟨ax,hax,hc⟩:=za hc;have fin:xop=.mkif t ax->P.concrete t=true->Done P E H w nx (execOp a.eval o) v H' nx':=by
   intro e hcon;rw [e] at h;simp only [xoS] at h;split at h
   ·rename_i p hp;cases h;exact .of_pure (s:=Instr.makeInterface t (a.eval x)) hr ⟨_,run_makeInterface w t _ hcon,.iface _ _ _ (ev hax hp)⟩ fun r w' h=>vv (by simp only [execOp,ho]) h
   ·cases h
  split at hc
  ·cases hc
  ·rename_i d hni hut;cases hc;refine fin rfl ?_
   unfold Program.concrete;rw [hut];cases d <;> first | rfl | exact absurd rfl (hni _)
  ·cases hc
 | makeFunc fn x y=>
  rw [ho] at hc;obtain ⟨ax,hax,hc⟩:=za hc;obtain ⟨ay,hay,hc⟩:=za hc;cases hc;simp only [xoS] at h;split at h
  ·rename_i p q hp hq;cases h;have h1:=zCK hf hg hax hp;have h2:=zCK hf hg hay hq;refine .of_pure (s:=Instr.makeFunc fn (x.map a.eval) (y.map a.eval)) hr ⟨_,rfl,.func fn p q _ _ (by have:=h1.1;simpa using this) (by have:=h2.1;simpa using this) (fun i u v hu hv=>h1.2 i u v hu (by simpa using hv)) (fun i u v hu hv=>h2.2 i u v hu (by simpa using hv))⟩
    fun r w' h=>vv (by simp only [execOp,ho]) h
  ·cases h
 | makeMap t r=>
  rw [ho] at hc;simp only [zAA] at hc;split at hc
  ·cases hc;cases h;exact .of_sem (zPq (P:=P) (t:=t) hr (hfr nx (Nat.le_refl _) (by omega))) fun r w' h=>vv (by simp only [execOp,ho];rfl) h
  ·cases hc
 | makeSlice t x y=>
  rw [ho] at hc;simp only [zAA] at hc;split at hc
  ·rename_i e hut;obtain ⟨ax,hax,hc⟩:=za hc;obtain ⟨ay,hay,hc⟩:=za hc;obtain ⟨s,hs,hc⟩:=za hc;obtain ⟨n,hn,hc⟩:=za hc;obtain ⟨z,hz,hc⟩:=za hc;cases s with
   | zero=>cases hc
   | succ s=>
    cases hc;simp only [xoS] at h;split at h
    ·rename_i k1 l k2 c hl hcc;split at h
     ·rename_i q1;split at h
      ·rename_i q2;split at h
       ·rename_i q3;cases h;have e1:=(ev hax hl).of_int.1;have e2:=(ev hay hcc).of_int.1;have:=zNW (P:=P) (kl:=k1) (kc:=k2) hr (hfr nx (Nat.le_refl _) (by omega)) hut hs hn hz (Nat.succ_pos _) (Nat.le_of_ble_eq_true q1) (Nat.le_of_ble_eq_true q2) (Nat.le_of_ble_eq_true q3)
        exact .of_sem (s:=Instr.makeSlice t (a.eval x) (a.eval y)) (by rw [e1,e2];exact this) fun r w' h=>vv (by simp only [execOp,ho]) h
       ·cases h
      ·cases h
     ·cases h
    ·cases h
  ·cases hc
 | slice t x lo hi mx=>
  rw [ho] at hc;obtain ⟨ax,hax,hc⟩:=za hc;obtain ⟨al,hal,hc⟩:=za hc;obtain ⟨ah,hah,hc⟩:=za hc;obtain ⟨am,ham,hc⟩:=za hc;have he:∀r w',(Instr.sliceAt t (a.eval x) (lo.map a.eval) (hi.map a.eval) (mx.map a.eval)).run P w=.ok r w'->(execOp a.eval o).run P w=.ok (.value r) w':=fun r w' h=>vv (by simp only [execOp,ho]) h
  have mxn:∀{m:Option XV},copdo mx=some m->m=none->mx=none:=fun h1 h2=>by
   cases mx with
   | none=>rfl
   | some m=>subst h2;simp only [copdo] at h1;split at h1 <;> cases h1
  split at hc
  ·rename_i hut;split at hc
   ·cases hc;have hmx:=mxn ham rfl;simp only [xoS] at h;split at h
    ·rename_i s l u hx hl hh;split at h
     ·rename_i t' e1;split at h
      ·rename_i l' e2;cases h;have:=zQk (P:=P) (w:=w) hut (ev hax hx) (zD2 hf hg hah hh) (zD2 hf hg hal hl) e1 e2;rw [hmx] at he;exact .of_pure hr this he
      ·cases h
     ·cases h
    ·cases h
   ·cases hc
  ·rename_i e hut;obtain ⟨s,hs,hc⟩:=za hc;cases s with
   | zero=>cases hc
   | succ s=>
    have fin:xop=.slcL ax al ah am (s+1)->(am≠none->ah≠none)->Done P E H w nx (execOp a.eval o) v H' nx':=by
     intro e1 hmh;rw [e1] at h;simp only [xoS] at h;split at h
     ·rename_i p l u m hx hl hh hm;split at h
      ·rename_i r hr2;cases h;refine .of_pure hr (zPo (P:=P) (w:=w) hut hs (Nat.succ_pos _) (ev hax hx) (zD2 hf hg hah hh) (zD2 hf hg hal hl) (zD2 hf hg ham hm) ?_ hr2) he
       intro hn hhn;refine hmh (fun e=>hn ?_) ?_
       ·rw [mxn ham e];rfl
       ·cases hi with
        | none=>simp only [copdo] at hah;cases hah;rfl
        | some y=>cases hhn
      ·cases h
     ·cases h
    simp only at hc;split at hc
    ·cases hc
    ·rename_i hno;cases hc;refine fin rfl fun h1 h2=>?_
     cases am with
     | none=>exact h1 rfl
     | some m=>exact hno m rfl h2
  ·rename_i n e hut;obtain ⟨s,hs,hc⟩:=za hc;cases s with
   | zero=>cases hc
   | succ s=>
    simp only at hc;split at hc
    ·split at hc
     rotate_left
     ·cases hc
     rename_i hnm;cases hc;have hmx:=mxn ham rfl;simp only [xoS] at h;split at h
     ·rename_i hd off l u hx hl hh;split at h
      ·rename_i st cs hget;split at h
       ·rename_i hle;split at h
        ·rename_i t' e1;split at h
         ·rename_i l' e2;cases h;have hle':=Nat.le_of_ble_eq_true hle;obtain ⟨q1,q2,q3⟩:=zDJ (P:=P) (sl:=false) (w:=w) (zD2 hf hg hah hh) (zD2 hf hg hal hl) e1 e2 (Nat.le_refl _) (Nat.le_refl _);obtain ⟨e3,hD⟩:=(ev hax hx).of_ptr;obtain ⟨c,e',f,hb,hff,hcr⟩:=CR.of_or (hr.obj _ (Heap.mem_of_get hget));have hcl:cs.length<=c.size:=by have:=hcr.1;simpa using this
          refine .of_pure (s:=Instr.sliceAt t (a.eval x) (lo.map a.eval) (hi.map a.eval) (mx.map a.eval)) hr ⟨.slice (some (if n=l' then ⟨E.ρ hd,off,none⟩ else (⟨E.ρ hd,off,none⟩:Addr).add (l'*(s+1)))) (t'-l') (n-l'),?_,?_⟩ he
          ·rw [e3,hmx];simp [Instr.sliceAt,run_underlying hut,Instr.sureAddr,q1,zAd hs]
          ·by_cases hnl:n=l'
           ·rw [if_pos hnl];have e5:t'-l'=0:=by omega
            have e6:n-l'=0:=by omega
            rw [e5,e6];exact .row0 _ _ _ _ _
           ·rw [if_neg hnl,zAr];have hnn:=Nat.le_of_ble_eq_true hnm;refine .row _ _ _ _ _ _ _ hD (by omega) (by omega) (Nat.succ_pos _) (Nat.le_refl _) (fun _=>rfl) ⟨c,e',f,hb,?_⟩
            have:l'*(s+1)+(n-l')*(s+1)=n*(s+1):=by rw [←Nat.add_mul];congr 1;omega
            omega
         ·cases h
        ·cases h
       ·cases h
      ·cases h
     ·cases h
    ·cases hc
  ·cases hc
 | fieldAddr t x i=>
  rw [ho] at hc;obtain ⟨ax,hax,hc⟩:=za hc;obtain ⟨fs,hfs,hc⟩:=za hc;obtain ⟨f,hfi,hc⟩:=za hc;obtain ⟨s,hs,hc⟩:=za hc;have hut:P.underlying t=some (.struct fs):=by
   unfold cfields at hfs;split at hfs
   ·cases hfs;assumption
   ·cases hfs
  cases s with
  | zero=>cases hc
  | succ s=>
   cases hc;simp only [xoS] at h;split at h
   ·rename_i hd off hp;cases h;obtain ⟨e1,hD⟩:=(ev hax hp).of_ptr;refine .of_pure (s:=Instr.fieldAt t (a.eval x) i) hr ⟨_,by rw [e1];exact zLq (P:=P) (w:=w) hut hfi hs,.ptr _ _ hD⟩ fun r w' h=>vv (by simp only [execOp,ho]) h
   ·rename_i e off hp;cases h;obtain ⟨b,c,u,e1,q1,q2,q3,q4⟩:=(ev hax hp).of_eptr;refine .of_pure (s:=Instr.fieldAt t (a.eval x) i) hr ⟨_,by rw [e1];exact zLq (P:=P) (w:=w) hut hfi hs,?_⟩ fun r w' h=>vv (by simp only [execOp,ho]) h
    rw [Nat.add_assoc];exact .eptr e _ b c u q1 q2 q3 q4
   ·cases h
 | field t x i=>
  rw [ho] at hc;obtain ⟨ax,hax,hc⟩:=za hc;obtain ⟨fs,hfs,hc⟩:=za hc;obtain ⟨f,hfi,hc⟩:=za hc;obtain ⟨s,hs,hc⟩:=za hc;obtain ⟨g,hag,hc⟩:=za hc;cases hc;have hut:P.underlying t=some (.struct fs):=by
   unfold cfields at hfs;split at hfs
   ·cases hfs;assumption
   ·cases hfs
  simp only [xoS] at h;split at h
  ·rename_i cs hp;split at h
   ·rename_i r hr2;cases h;obtain ⟨vs,e1,q1,q2⟩:=(ev hax hp).of_agg;obtain ⟨cv,r1,r2⟩:=zMi (P:=P) q1 q2 hs hag hr2;refine .of_pure (s:=Instr.field t (a.eval x) i) hr ⟨cv,?_,r2⟩ fun r w' h=>vv (by simp only [execOp,ho]) h
    rw [e1];simp [Instr.field,run_underlying hut,hfi,asAgg,r1]
   ·cases h
  ·cases h
 | indexAddr t x i=>
  rw [ho] at hc;obtain ⟨ax,hax,hc⟩:=za hc;obtain ⟨ai,hai,hc⟩:=za hc;have he:∀r w',(Instr.indexAt t (a.eval x) (a.eval i)).run P w=.ok r w'->(execOp a.eval o).run P w=.ok (.value r) w':=fun r w' h=>vv (by simp only [execOp,ho]) h
  split at hc
  ·rename_i e hut;obtain ⟨s,hs,hc⟩:=za hc;cases s with
   | zero=>cases hc
   | succ s=>
    cases hc;simp only [xoS] at h;split at h
    ·rename_i sz' es p hx hp;split at h
     ·rename_i hse;split at h
      ·rename_i y hy;cases h;exact .of_pure hr (zKh (P:=P) hut hs (ev hax hx) (ev hai hp) (.inl ⟨sz',es,y,rfl,hse,hy,rfl⟩)) he
      ·cases h
     ·cases h
    ·rename_i hd off len sz' cp ex p hx hp;split at h
     ·rename_i hse;split at h
      ·rename_i y hy;cases h;exact .of_pure hr (zKh (P:=P) hut hs (ev hax hx) (ev hai hp) (.inr ⟨hd,off,len,sz',cp,ex,y,rfl,hse,hy,rfl⟩)) he
      ·cases h
     ·cases h
    ·cases h
  ·rename_i n e hut;obtain ⟨s,hs,hc⟩:=za hc;cases s with
   | zero=>cases hc
   | succ s=>
    cases hc;simp only [xoS] at h;split at h
    ·rename_i hd off p hx hp;split at h
     ·rename_i j hj;cases h;obtain ⟨e1,hD⟩:=(ev hax hx).of_ptr;refine .of_pure (s:=Instr.indexAt t (a.eval x) (a.eval i)) hr ⟨_,by rw [e1];exact zKg (P:=P) hut hs (ev hai hp) hj,?_⟩ he
      rw [zAr];exact .ptr _ _ hD
     ·cases h
    ·rename_i e' off p hx hp;split at h
     ·rename_i j hj;cases h;obtain ⟨b,c,u,e1,q1,q2,q3,q4⟩:=(ev hax hx).of_eptr;refine .of_pure (s:=Instr.indexAt t (a.eval x) (a.eval i)) hr ⟨_,by rw [e1];exact zKg (P:=P) hut hs (ev hai hp) hj,?_⟩ he
      rw [zAr,Nat.add_assoc];exact .eptr e' _ b c u q1 q2 q3 q4
     ·cases h
    ·cases h
  ·cases hc
 | index t x i=>
  rw [ho] at hc;obtain ⟨ax,hax,hc⟩:=za hc;obtain ⟨ai,hai,hc⟩:=za hc;have he:∀r w',(Instr.index t (a.eval x) (a.eval i)).run P w=.ok r w'->(execOp a.eval o).run P w=.ok (.value r) w':=fun r w' h=>vv (by simp only [execOp,ho]) h
  split at hc
  ·rename_i hut;cases hc;simp only [xoS] at h;split at h
   ·rename_i s k n hx hn;split at h
    ·rename_i b hb;cases h;obtain ⟨e1,_⟩:=(ev hai hn).of_int;refine .of_pure (s:=Instr.index t (a.eval x) (a.eval i)) hr ?_ he
     rw [e1];exact zQl (P:=P) hut (ev hax hx) hb
    ·cases h
   ·cases h
  ·rename_i n e hut;obtain ⟨s,hs,hc⟩:=za hc;obtain ⟨g,hag,hc⟩:=za hc;cases hc;simp only [xoS] at h;split at h
   ·rename_i cs p hx hp;split at h
    ·rename_i j hj;split at h
     ·rename_i r hr2;cases h;exact .of_pure hr (zQm (P:=P) hut hs hag (ev hax hx) (ev hai hp) hj hr2) he
     ·cases h
    ·cases h
   ·cases h
  ·cases hc
 | lookup t x i ok=>
  rw [ho] at hc;obtain ⟨ax,hax,hc⟩:=za hc;obtain ⟨ai,hai,hc⟩:=za hc;split at hc
  ·rename_i kt et hut;obtain ⟨q,hq,hc⟩:=za hc;obtain ⟨z,hz,hc⟩:=za hc;cases hc;unfold keyT at hq;obtain ⟨ks,hks,hq⟩:=za hq;obtain ⟨ag,hag,hq⟩:=za hq;cases hq;simp only [xoS] at h;split at h
   ·rename_i m k hm hk;split at h
    ·cases h
    rename_i hok;have fin:=fun hh=>zOq (P:=P) (ok:=ok) (v:=v) hr hut hks hag hz (ev hax hm) (ev hai hk) hok hh
    have he:∀r w',(Instr.lookup t (a.eval x) (a.eval i) ok).run P w=.ok r w'->(execOp a.eval o).run P w=.ok (.value r) w':=fun r w' h=>vv (by simp only [execOp,ho]) h
    split at h
    ·cases h;exact .of_pure hr (fin (.inl ⟨rfl,rfl⟩)) he
    ·split at h
     ·rename_i es hget;split at h
      ·rename_i u hu;cases h;exact .of_pure hr (fin (.inr ⟨_,es,some u,rfl,hget,hu,rfl⟩)) he
      ·rename_i hu;cases h;exact .of_pure hr (fin (.inr ⟨_,es,none,rfl,hget,hu,rfl⟩)) he
      ·cases h
     ·cases h
    ·cases h
   ·cases h
  ·cases hc
 | range t x=>
  rw [ho] at hc;obtain ⟨ax,hax,hc⟩:=za hc;split at hc
  ·rename_i hut;cases hc;simp only [xoS] at h;split at h
   ·rename_i s hs;cases h;exact .of_sem (zQn (P:=P) hr (hfr nx (Nat.le_refl _) (by omega)) (ev hax hs) hut) fun r w' h=>vv (by simp only [execOp,ho]) h
   ·cases h
  ·cases hc
 | next it b=>
  rw [ho] at hc;cases b with
  | false=>cases hc
  | true=>
   obtain ⟨ax,hax,hc⟩:=za hc;cases hc;simp only [xoS] at h;split at h
   ·rename_i hd hp;obtain ⟨e1,hD⟩:=(ev hax hp).of_ptr;have he:∀r w',(Instr.next (.pointer (some ⟨E.ρ hd,0,none⟩)) true o.type).run P w=.ok r w'->(execOp a.eval o).run P w=.ok (.value r) w':=fun r w' h=>vv (by simp only [execOp,ho,e1]) h
    split at h
    ·rename_i s pos hget;split at h
     ·rename_i hle;split at h
      ·rename_i hlt;split at h
       ·rename_i b hb;cases h;exact .of_sem (zLs (P:=P) hr hD hget (Nat.le_of_ble_eq_true hle) (.inl ⟨by rw [Nat.blt_eq] at hlt;exact hlt,b,hb,rfl,rfl⟩)) he
       ·cases h
      ·rename_i hlt;cases h;exact .of_sem (zLs (P:=P) hr hD hget (Nat.le_of_ble_eq_true hle) (.inr ⟨(fun hh=>by
        have:Nat.blt pos s.length=true:=by rw [Nat.blt_eq];exact hh
        rw [this] at hlt;cases hlt),rfl,rfl⟩)) he
     ·cases h
    ·cases h
   ·cases h
 | typeAssert x t u ok=>
  rw [ho] at hc;obtain ⟨ax,hax,hc⟩:=za hc;obtain ⟨z,hz,hc⟩:=za hc;obtain ⟨cz,z1,z2⟩:=zLo (w:=w) hz;have he:∀r w',(Instr.typeAssert (a.eval x) t u ok).run P w=.ok r w'->(execOp a.eval o).run P w=.ok (.value r) w':=fun r w' h=>vv (by simp only [execOp,ho]) h
  have fin:∀d,P.underlying u=some d->(∀ms,d≠.interface ms)->xop=.tas ax u ok z->Done P E H w nx (execOp a.eval o) v H' nx':=by
   intro d hut hni e1;rw [e1] at h;simp only [xoS] at h;split at h
   ·rename_i t' y hp;have hv:=ev hax hp;obtain ⟨cy,e2,hy⟩:∃cy,a.eval x=.iface t' cy/\VR E w y cy:=by
     generalize a.eval x=cx at hv;cases hv;exact ⟨_,rfl,by assumption⟩
    split at h
    ·rename_i htt;have:=zb htt;subst this;cases h;refine .of_pure (s:=Instr.typeAssert (a.eval x) t t' ok) hr ?_ he
     rw [e2];cases ok
     ·refine ⟨cy,?_,hy⟩
      cases d <;> first | exact absurd rfl (hni _) | simp [Instr.typeAssert,run_underlying hut]
     ·refine ⟨.tuple #[cy,.bool true],?_,zHd hy⟩
      cases d <;> first | exact absurd rfl (hni _) | simp [Instr.typeAssert,run_underlying hut]
    ·rename_i htt;split at h
     ·cases h;have hne:¬t'=u:=fun e=>by rw [e,Nat.beq_refl] at htt;cases htt
      refine .of_pure (s:=Instr.typeAssert (a.eval x) t u true) hr ⟨.tuple #[cz,.bool false],?_,zHd z2⟩ he
      rw [e2];cases d <;> first | exact absurd rfl (hni _) | simp [Instr.typeAssert,run_underlying hut,hne,z1]
     ·cases h
   ·rename_i hp;have hv:=ev hax hp;have e2:a.eval x=.nilIface:=by
     generalize a.eval x=cx at hv;cases hv;rfl
    split at h
    ·cases h;refine .of_pure (s:=Instr.typeAssert (a.eval x) t u true) hr ⟨.tuple #[cz,.bool false],?_,zHd z2⟩ he
     rw [e2];cases d <;> first | exact absurd rfl (hni _) | simp [Instr.typeAssert,run_underlying hut,z1]
    ·cases h
   ·cases h
  split at hc
  ·cases hc
  ·rename_i d hni hut;cases hc;exact fin d hut (fun ms e=>hni ms e) rfl
  ·cases hc
 | extract t i=>
  rw [ho] at hc;obtain ⟨ax,hax,hc⟩:=za hc;cases hc;simp only [xoS] at h;split at h
  ·rename_i vs hp;split at h
   ·rename_i u hu;cases h;obtain ⟨us,e1,hv⟩:=(ev hax hp).of_tup;obtain ⟨cv,r1,r2⟩:=hv.getElem? hu;have r1':us[i]? = some cv:=by simpa using r1
    refine .of_pure (s:=Instr.extract (a.eval t) i) hr ⟨cv,?_,r2⟩ fun r w' h=>vv (by simp only [execOp,ho]) h
    rw [e1];simp [Instr.extract,r1']
   ·cases h
  ·cases h
 | call c=>exact absurd ho (hnc c)
 | _=>rw [ho] at hc;cases hc
end
end Go.Sy
namespace Go.Sy
def FnT (P:Program) (G:Cx) (f:FuncId) (args:List AV) (H:Heap) (nx:Nat) (v:AV) (H':Heap) (nx':Nat):Prop:=
 ∀(E:Env) (w:World) (cargs:Array Value),HR E H w->VRs E w args cargs.toList->GR G E w->Fresh E nx nx' →
  Calls P f cargs w fun e w'=>∃cv E',e=.returned cv/\HR E' H' w'/\Tr E H w E' H' w' nx nx'/\VR E' w' v cv
def Enters (P:Program) (f:FuncId):Prop:=∃fn b,P.funcs[f]? = some fn/\fn.body=some b/\(fn.name == "runtime.NumGoroutine")=false
def zD3 (P:Program) (G:Cx) (call:Sy.Call):Prop:=∀f args H nx v H' nx',call f args H nx=some (v,H',nx')->Enters P f/\nx<=nx'/\FnT P G f args H nx v H' nx'
def zAi (P:Program) (G:Cx):Prop:=∀t m f,G.meth t m=some f->∀(v:Value) (w:World),(method (P.types.size+Made.depth) t v m).run P w=.ok (f,v) w
theorem zDL {P:Program} {G:Cx}:zD3 P G ze:=fun _ _ _ _ _ _ _ h=>by cases h
section
variable {P:Program} {G:Cx} {E:Env} {w:World} {fr:Fr} {a:Act} {nt:Nat} {H:Heap} {nx:Nat}
def OpT (P:Program) (o:Oper) (a:Act) (E:Env) (H:Heap) (w:World) (nx:Nat) (v:AV) (H':Heap) (nx':Nat):Prop:=
 ∀(next:Act->World->Prop) (Q:Exit->Act->World->Prop),(∀cv E' w',HR E' H' w'->Tr E H w E' H' w' nx nx'->VR E' w' v cv->next (a.put o.dst cv) w')->o.wp P a w next Q
theorem OpT.of_done {o:Oper} {v:AV} {H':Heap} {nx':Nat} (h:Done P E H w nx (execOp a.eval o) v H' nx'):OpT P o a E H w nx v H' nx':=by
 intro next Q hn;obtain ⟨cv,E',w',h1,h2,h3,h4 | ⟨h4,h5⟩⟩:=h
 ·unfold Oper.wp;rw [h4];exact hn cv E' w' h1 h2 h3
 ·unfold Oper.wp;rw [h4];subst h5;exact hn _ E' w' h1 h2 h3
theorem OpT.of_call {o:Oper} {v:AV} {H':Heap} {nx':Nat} {f:FuncId} {args:List AV} {cargs:Array Value} (hr:HR E H w) (hg:GR G E w) (hfr:Fresh E nx nx') (hv:VRs E w args cargs.toList) (ht:FnT P G f args H nx v H' nx')
  (he:(execOp a.eval o).run P w=.ok (.enter f cargs) w):OpT P o a E H w nx v H' nx':=by
 intro next Q hn;unfold Oper.wp;rw [he];refine (ht E w cargs hr hv hg hfr).mono fun e w' h=>?_
 obtain ⟨cv,E',rfl,h1,h2,h3⟩:=h;exact hn cv E' w' h1 h2 h3
theorem zHn {f:FuncId} {args:Array Value} (h:Enters P f):(callFunc f args).run P w=.ok (.enter f args) w:=by
 obtain ⟨fn,b,h1,h2,h3⟩:=h;have h4:¬fn.name = "runtime.NumGoroutine":=by simpa using h3
 simp [callFunc,h1,h2,h4]
theorem zPN (c:UInt8):∀(l:List UInt8) (i:Nat),bidx c.toNat i (l.map UInt8.toNat)=if Lib.indexByte l c=-1 then -1 else Lib.indexByte l c+(i:Int)
 | [],i=>by simp [bidx,Lib.indexByte]
 | a::l,i=>by
  simp only [List.map_cons,bidx,Lib.indexByte];by_cases e:a=c
  ·subst e;have:Nat.beq a.toNat a.toNat=true:=Nat.beq_refl _;simp [this]
  ·have h1:Nat.beq a.toNat c.toNat=false:=by
    cases h:Nat.beq a.toNat c.toNat with
    | false=>rfl
    | true=>exact absurd (UInt8.toNat_inj.1 (zb h)) e
   have h2:(a==c)=false:=by simpa using e
   have h3:=Lib.indexByte_ge l c;have ih:=zPN c l (i+1);simp only [h1,h2];rw [ih];by_cases e2:Lib.indexByte l c=-1
   ·simp [e2]
   ·have e3:(Lib.indexByte l c==-1)=false:=by simpa using e2
    have e4:¬(Lib.indexByte l c+1=-1):=by omega
    simp [e2,e4];omega
theorem zKk (c:UInt8):∀l:List UInt8,Lib.indexByte l c<l.length\/Lib.indexByte l c=-1
 | []=>.inr rfl
 | a::l=>by
  simp only [Lib.indexByte,List.length_cons];split
  ·left;omega
  ·split
   ·exact .inr rfl
   ·rename_i h;have h':¬Lib.indexByte l c=-1:=by simpa using h
    rcases zKk c l with h1 | h1
    ·left;omega
    ·exact absurd h1 h'
theorem zPO (c:UInt8):∀l:List UInt8,bcnt c.toNat (l.map UInt8.toNat)=Lib.countByte l c
 | []=>rfl
 | a::l=>by
  have ih:=zPO c l;simp only [List.map_cons,bcnt,Lib.countByte,List.count_cons] at ih ⊢;by_cases e:a=c
  ·subst e;have:Nat.beq a.toNat a.toNat=true:=Nat.beq_refl _;simp [this,ih]
  ·have h1:Nat.beq a.toNat c.toNat=false:=by
    cases h:Nat.beq a.toNat c.toNat with
    | false=>rfl
    | true=>exact absurd (UInt8.toNat_inj.1 (zb h)) e
   simp [h1,ih,e]
theorem zMp {fn:Func} (h:fn.name = "internal/bytealg.IndexByteString") (ho:fn.origin = ""):Extern.findNext fn=none/\Extern.find fn=some Extern.BytealgIndexByte.indexByte:=by
 have e1:Extern.allGenericRows.lookup "internal/bytealg.IndexByteString"=none:=by kernel_rfl
 have e2:Extern.allTypedRows.lookup "internal/bytealg.IndexByteString"=none:=by kernel_rfl
 have e3:Extern.allRows.lookup "internal/bytealg.IndexByteString"=some Extern.BytealgIndexByte.indexByte:=by kernel_rfl
 have e4:Extern.allNextRows.lookup "internal/bytealg.IndexByteString"=none:=by kernel_rfl
 have e5:Extern.allNextRows.lookup ""=none:=by kernel_rfl
 exact ⟨by simp only [Extern.findNext,h,ho,e4,e5];rfl,by simp only [Extern.find,h,e1,e2,e3];rfl⟩
theorem zMq {fn:Func} (h:fn.name = "internal/bytealg.CountString") (ho:fn.origin = ""):Extern.findNext fn=none/\Extern.find fn=some Extern.BytealgCount.count:=by
 have e1:Extern.allGenericRows.lookup "internal/bytealg.CountString"=none:=by kernel_rfl
 have e2:Extern.allTypedRows.lookup "internal/bytealg.CountString"=none:=by kernel_rfl
 have e3:Extern.allRows.lookup "internal/bytealg.CountString"=some Extern.BytealgCount.count:=by kernel_rfl
 have e4:Extern.allNextRows.lookup "internal/bytealg.CountString"=none:=by kernel_rfl
 have e5:Extern.allNextRows.lookup ""=none:=by kernel_rfl
 exact ⟨by simp only [Extern.findNext,h,ho,e4,e5];rfl,by simp only [Extern.find,h,e1,e2,e3];rfl⟩
theorem zPP {b:Nat} (h:has .u8 (Int.ofNat b)):((Int.ofNat b).toNat.toUInt8).toNat=b:=by
 have h2:(Int.ofNat b)<=255:=h.2;have h3:b<=255:=by
  have:(b:Int)<=255:=h2;omega
 show (b.toUInt8).toNat=b
 rw [Nat.toUInt8_eq,UInt8.toNat_ofNat'];omega
theorem zOt (hr:HR E H w) (hf:FrR E w fr a nt) (hg:GR G E w) {v:AV} {H':Heap} {nx':Nat} {o:Oper} {f:FuncId} {fn:Func} {args:Array Operand} {ts:Array TypeId} {as:List XV} {xop:XO} {call:Sy.Call}
  (ho:o.op=.call ⟨.value (.func f),args,ts⟩) (hfn:P.funcs[f]? = some fn) (hb:fn.body=none) (has':copds args.toList=some as) (hc:extK fn as=some xop) (h:xoS G call fr H nx xop=some (v,H',nx')):
  Done P E H w nx (execOp a.eval o) v H' nx':=by
 have hbn:fn.body.isNone=true:=by rw [hb];rfl
 unfold extK at hc;split at hc
 rotate_left
 ·cases hc
 rename_i x y hor;have hor:fn.origin = "":=by simpa using hor
 have run2:∀{p q:AV} {e:Array Value->Sem Value},x.ev G fr=some p->y.ev G fr=some q->(fn.name == "runtime.NumGoroutine")=false->Extern.findNext fn=none->Extern.find fn=some e →
   ∃cp cq,VR E w p cp/\VR E w q cq/\∀r w',(e #[cp,cq]).run P w=.ok r w'->(execOp a.eval o).run P w=.ok (.value r) w':=by
  intro p q e hp hq hn h1 h2;have hv:=zCK hf hg has' (show evs G fr [x,y]=some [p,q] by simp only [evs,hp,hq])
  obtain ⟨cp,l1,e1,v1,hv⟩:=hv.of_cons;obtain ⟨cq,l2,rfl,v2,hv⟩:=hv.of_cons;rw [hv.of_nil] at e1;refine ⟨cp,cq,v1,v2,fun r w' he=>?_⟩
  have ea:args.map a.eval=#[cp,cq]:=by
   apply Array.ext'
   simpa using e1
  simp only [execOp,ho,resolve,Sem.run_bind,ea,Act.eval,Deferred.ofValue,Sem.run_pure,Result.andThen_ok,invoke];have:=run_callFunc_extern (P:=P) hfn hn hbn h1 h2 #[cp,cq] w;rw [he] at this
  simpa using this
 split at hc
 ·rename_i hname;have hname:fn.name = "internal/bytealg.IndexByteString":=by simpa using hname
  cases hc;simp only [xoS] at h;split at h
  ·rename_i s b hs hb2;cases h;obtain ⟨cp,cq,v1,v2,he⟩:=run2 hs hb2 (by rw [hname];rfl) (zMp hname hor).1 (zMp hname hor).2
   obtain ⟨bs,rfl,hbs,hlen⟩:=v1.of_str;obtain ⟨rfl,hb3⟩:=v2.of_int;refine .pure hr (he _ _ (Lib.run_indexByteString bs _ w)) ?_
   have e0:=zPN ((Int.ofNat b).toNat.toUInt8) bs.data.toList 0;rw [zPP hb3,hbs] at e0;have e1:bidx b 0 s=Lib.indexByte bs.data.toList ((Int.ofNat b).toNat.toUInt8):=by
    rw [e0];split
    ·rename_i h1;exact h1.symm
    ·simp
   rw [e1];refine .int _ _ ⟨?_,?_⟩
   ·have:=Lib.indexByte_ge bs.data.toList ((Int.ofNat b).toNat.toUInt8);show (-9223372036854775808:Int)<=_
    omega
   ·show _<=(9223372036854775807:Int)
    have hl:bs.data.toList.length<=9223372036854775807:=by rw [←hbs] at hlen;simpa [zf] using hlen
    rcases zKk ((Int.ofNat b).toNat.toUInt8) bs.data.toList with h1 | h1 <;> omega
  ·cases h
 ·split at hc
  ·rename_i hname;have hname:fn.name = "internal/bytealg.CountString":=by simpa using hname
   cases hc;simp only [xoS] at h;split at h
   ·rename_i s b hs hb2;cases h;obtain ⟨cp,cq,v1,v2,he⟩:=run2 hs hb2 (by rw [hname];rfl) (zMq hname hor).1 (zMq hname hor).2
    obtain ⟨bs,rfl,hbs,hlen⟩:=v1.of_str;obtain ⟨rfl,hb3⟩:=v2.of_int;refine .pure hr (he _ _ (Lib.run_countString bs _ w)) ?_
    have e0:=zPO ((Int.ofNat b).toNat.toUInt8) bs.data.toList;rw [zPP hb3,hbs] at e0;rw [e0];refine .int _ _ ⟨?_,?_⟩
    ·show (-9223372036854775808:Int)<=((Lib.countByte bs.data.toList ((Int.ofNat b).toNat.toUInt8):Nat):Int)
     omega
    ·show ((Lib.countByte bs.data.toList ((Int.ofNat b).toNat.toUInt8):Nat):Int)<=(9223372036854775807:Int)
     have hl:bs.data.toList.length<=9223372036854775807:=by rw [←hbs] at hlen;simpa [zf] using hlen
     have:Lib.countByte bs.data.toList ((Int.ofNat b).toNat.toUInt8)<=bs.data.toList.length:=List.count_le_length;omega
   ·cases h
  ·cases hc
theorem zRp (hr:HR E H w) (hf:FrR E w fr a nt) (hg:GR G E w) (hm:zAi P G) {v:AV} {H':Heap} {nx':Nat} {o:Oper} {c:Go.Call} {xop:XO} {call:Sy.Call} (hcall:zD3 P G call) (ho:o.op=.call c) (hc:zAA P o.op=some xop)
  (hfr:Fresh E nx nx') (h:xoS G call fr H nx xop=some (v,H',nx')):OpT P o a E H w nx v H' nx':=by
 obtain ⟨callee,args,ts⟩:=c;rw [ho] at hc;have hval:∀{x:Operand} {ax:XV} {as:List XV} {f:Nat} {first caps vs:List AV},callee=.value x->copd x=some ax->copds args.toList=some as->ax.ev G fr=some (.func (.func f) first caps)->evs G fr as=some vs →
   call f (first++vs++caps) H nx=some (v,H',nx')->OpT P o a E H w nx v H' nx':=by
  intro x ax as f first caps vs e1 e2 e3 e4 e5 e6;subst e1;obtain ⟨c1,_,c2⟩:=hcall _ _ _ _ _ _ _ e6;have hv:=zu hf hg e2 e4;generalize hcx:a.eval x=cx at hv;cases hv with
  | func _ _ _ vf vc hf1 hc1 rf rc=>
   have hargs:=zCK hf hg e3 e5;have h1:VRs E w first vf.toList:=⟨by simpa using hf1,fun i x v hx hv=>rf i x v hx (by simpa using hv)⟩
   have h2:VRs E w caps vc.toList:=⟨by simpa using hc1,fun i x v hx hv=>rc i x v hx (by simpa using hv)⟩
   refine .of_call (cargs:=vf++args.map a.eval++vc) hr hg hfr (by simpa using (h1.append hargs).append h2) c2 ?_
   simp only [execOp,ho,resolve,Sem.run_bind,hcx,Deferred.ofValue,Sem.run_pure,Result.andThen_ok,invoke];exact zHn c1
 cases callee with
 | builtin b=>exact .of_done (zKj hr hf hg ho hc hfr h)
 | value x=>
  have gen:∀{hx:∃ax,copd x=some ax/\∃as,copds args.toList=some as/\xop=.callv ax as},OpT P o a E H w nx v H' nx':=by
   rintro ⟨ax,hax,as,has,e⟩
   rw [e] at h;simp only [xoS] at h;split at h
   ·rename_i fv vs hfv hvs;unfold applyf at h;split at h
    ·exact hval rfl hax has hfv hvs h
    ·cases h
   ·cases h
  cases x with
  | func f=>
   simp only [zAA] at hc;split at hc
   ·rename_i fn hfn;split at hc
    ·obtain ⟨as,has,hc⟩:=za hc;cases hc;simp only [xoS] at h;split at h
     ·rename_i vs hvs;exact hval (x:=.func f) (ax:=.c (.func (.func f) [] [])) rfl rfl has rfl hvs (by simpa using h)
     ·cases h
    ·rename_i hbn;obtain ⟨as,has,hc⟩:=za hc;exact .of_done (zOt hr hf hg ho hfn hbn has hc h)
   ·cases hc
  | tmp t=>
   obtain ⟨as,has,hc⟩:=za hc;cases hc;exact gen (hx:=⟨_,rfl,as,has,rfl⟩)
  | const cst=>
   obtain ⟨ax,hax,hc⟩:=za hc;obtain ⟨as,has,hc⟩:=za hc;cases hc;exact gen (hx:=⟨ax,hax,as,has,rfl⟩)
  | global g=>
   obtain ⟨as,has,hc⟩:=za hc;cases hc;exact gen (hx:=⟨_,rfl,as,has,rfl⟩)
 | invoke r m=>
  obtain ⟨ar,har,hc⟩:=za hc;obtain ⟨as,has,hc⟩:=za hc;cases hc;simp only [xoS] at h;split at h
  ·rename_i t u vs hr2 hvs;split at h
   ·rename_i f hmf;obtain ⟨c1,_,c2⟩:=hcall _ _ _ _ _ _ _ h;have hv:=zu hf hg har hr2;generalize hcx:a.eval r=cx at hv;cases hv with
    | iface _ _ cu hu=>
     have hargs:=zCK hf hg has hvs;refine .of_call (cargs:=#[cu]++args.map a.eval) hr hg hfr (by simpa using VRs.cons hu hargs) c2 ?_
     have hmm:=hm t m f hmf cu w;simp only [execOp,ho,resolve,Sem.run_bind,hcx,Sem.run_pure,Result.andThen_ok,invoke];have e1:(#[Value.iface t cu]++args.map a.eval)[0]? = some (.iface t cu):=by
      simp [Array.getElem?_append]
     have e2:(#[Value.iface t cu]++args.map a.eval).extract 1 (#[Value.iface t cu]++args.map a.eval).size=args.map a.eval:=by
      apply Array.ext';simp [List.take_of_length_le]
     simp only [e1,e2,callMethod,Sem.run_bind,run_program,Result.andThen_ok,hmm];exact zHn c1
   ·cases h
  ·cases h
theorem zFr (hr:HR E H w) (hf:FrR E w fr a nt) (hg:GR G E w) (hm:zAi P G) {v:AV} {H':Heap} {nx':Nat} {o:Oper} {xop:XO} {call:Sy.Call} (hcall:zD3 P G call) (hc:zAA P o.op=some xop)
  (hfr:Fresh E nx nx') (h:xoS G call fr H nx xop=some (v,H',nx')):OpT P o a E H w nx v H' nx':=by
 by_cases hco:∃c,o.op=.call c
 ·obtain ⟨c,ho⟩:=hco;exact zRp hr hf hg hm hcall ho hc hfr h
 ·exact .of_done (zPM hr hf hg (fun c h=>hco ⟨c,h⟩) hc hfr h)
end
end Go.Sy
namespace Go.Sy
def zDv (call:Call):Prop:=∀f args H nx v H' nx',call f args H nx=some (v,H',nx')->nx<=nx'
theorem zD3.le {P:Program} {G:Cx} {call:Call} (h:zD3 P G call):zDv call:=fun f args H nx v H' nx' e=>(h f args H nx v H' nx' e).2.1
theorem zQq {H:Heap} {nx:Nat} {s y:AV} {sz bytes:Nat} {v:AV} {H':Heap} {nx':Nat} (h:xappend H nx s y sz bytes=some (v,H',nx')):nx<=nx':=by
 unfold xappend at h
 repeat' split at h
 all_goals first
  | (cases h;done)
  | (cases h;exact Nat.le_refl _)
  | (cases h;exact Nat.le_succ _)
theorem zSD {H:Heap} {nx:Nat} {d y:AV} {sz:Nat} {v:AV} {H':Heap} {nx':Nat} (h:xcopy H nx d y sz=some (v,H',nx')):nx<=nx':=by
 unfold xcopy at h
 repeat' split at h
 all_goals first
  | (cases h;done)
  | (cases h;exact Nat.le_refl _)
set_option maxHeartbeats 1000000 in
theorem zQr {G:Cx} {call:Call} {fr:Fr} {H:Heap} {nx:Nat} {o:XO} {v:AV} {H':Heap} {nx':Nat} (hc:zDv call) (h:xoS G call fr H nx o=some (v,H',nx')):nx<=nx':=by
 cases o <;> simp only [xoS] at h
 all_goals (repeat' split at h)
 all_goals first
  | (cases h;done)
  | (cases h;exact Nat.le_refl _)
  | (cases h;exact Nat.le_succ _)
  | exact zQq h
  | exact zSD h
  | exact hc _ _ _ _ _ _ _ h
  | (unfold applyf at h;split at h <;> first | exact hc _ _ _ _ _ _ _ h | (cases h;done))
theorem zPQ {G:Cx} {call:Call} {fr:Fr} {H:Heap} {nx:Nat} {o:XO} {v:AV} {H':Heap} {nx':Nat} (hk:zI o=1) (h:xoS G call fr H nx o=some (v,H',nx')):H'=H/\nx'=nx:=by
 cases o <;> first | (cases hk;done) | skip
 all_goals simp only [xoS] at h
 all_goals (repeat' split at h)
 all_goals first
  | (cases h;done)
  | (cases h;exact ⟨rfl,rfl⟩)
theorem zMr {f:AV->AV->Bool} (hf:∀a b,f a b=true->a=b):∀{x y:List AV},allb f x y=true->x=y
 | [],[],_=>rfl
 | a::x,b::y,h=>by
  simp only [allb] at h;split at h
  ·rename_i e;rw [hf a b e,zMr hf h]
  ·cases h
 | [],_::_,h=>by simp [allb] at h
 | _::_,[],h=>by simp [allb] at h
theorem zNp:∀(d:Nat) (a b:AV),aeq d a b=true->a=b:=by
 intro d
 induction d with
 | zero=>intro a b h;simp [aeq] at h
 | succ d ih=>
  intro a b h;have al:∀{x y:List AV},allb (aeq d) x y=true->x=y:=zMr ih;unfold aeq at h;split at h
  case h_2=>
   split at h
   ·rename_i e;have:=zFo e;have h:=eq_of_beq h;subst this;subst h;rfl
   ·cases h
  case h_3=>rw [zCX h]
  all_goals first
   | (cases h;done)
   | rfl
   | (simp only [Bool.and_eq_true,beq_iff_eq] at h)
   | skip
  ·rw [h]
  ·rw [zb h.1,zb h.2]
  ·rw [ih _ _ h.1,zb h.2]
  ·rw [zb h.1,al h.2]
  ·obtain ⟨⟨⟨⟨⟨h1,h2⟩,h3⟩,h4⟩,h5⟩,h6⟩:=h;rw [zb h1,zb h2,zb h3,zb h4,zb h5,h6]
  ·rw [zb h]
  ·rw [zb h.1.1,al h.1.2,al h.2]
  ·rw [zb h.1,ih _ _ h.2]
  ·rw [al h]
  ·rw [al h]
  ·rw [zb h]
end Go.Sy
namespace Go.Sy
structure TrS (E:Env) (H:Heap) (w:World) (E':Env) (H':Heap) (w':World) (N:Nat->Prop):Prop where
 agree:∀h,E.D h->E'.ρ h=E.ρ h
 dom:∀h,E'.D h↔E.D h\/N h
 zmono:∀x,E.Z x->E'.Z x
 znew:∀x,E'.Z x->E.Z x\/(∃p∈H,E.ρ p.1=x)\/w.heap.size<=x
 own:∀p∈H',(∃q∈H,E.ρ q.1=E'.ρ p.1)\/w.heap.size<=E'.ρ p.1
 tape:w'.tape=w.tape
 os:w'.os=w.os
 output:w'.output=w.output
 size:w.heap.size<=w'.heap.size
 old:∀x,x<w.heap.size->(∀p∈H,E.ρ p.1≠x)->w'.heap[x]? = w.heap[x]?
 shapes:Shapes w w'
 sig:E'.σ=E.σ:=by rfl
theorem TrS.step {E:Env} {H:Heap} {w:World} {E1:Env} {H1:Heap} {w1:World} {E2:Env} {H2:Heap} {w2:World} {N N':Nat->Prop} {a b:Nat}
  (h:TrS E H w E1 H1 w1 N) (k:Tr E1 H1 w1 E2 H2 w2 a b) (hN:∀h,N' h↔N h\/(a<=h/\h<b)):TrS E H w E2 H2 w2 N' where
 agree x hx:=(k.agree x ((h.dom x).2 (.inl hx))).trans (h.agree x hx)
 dom x:=by rw [k.dom,h.dom,hN,or_assoc]
 zmono x hx:=k.zmono x (h.zmono x hx)
 znew x hx:=by
  rcases k.znew x hx with h1 | ⟨p,hp,rfl⟩ | h1
  ·exact h.znew x h1
  ·exact .inr (h.own p hp)
  ·exact .inr (.inr (Nat.le_trans h.size h1))
 own p hp:=by
  rcases k.own p hp with ⟨q,hq,e⟩ | h1
  ·rw [←e];exact h.own q hq
  ·exact .inr (Nat.le_trans h.size h1)
 tape:=k.tape.trans h.tape
 os:=k.os.trans h.os
 output:=k.output.trans h.output
 size:=Nat.le_trans h.size k.size
 old x hx hp:=by
  rw [k.old x (Nat.lt_of_lt_of_le hx h.size) fun p hp1 e=>by
   rcases h.own p hp1 with ⟨q,hq,e2⟩ | h1
   ·exact hp q hq (e2.trans e)
   ·omega]
  exact h.old x hx hp
 shapes:=h.shapes.trans k.shapes
 sig:=k.sig.trans h.sig
theorem TrS.of_tr {E:Env} {H:Heap} {w:World} {E':Env} {H':Heap} {w':World} {a b:Nat} (h:Tr E H w E' H' w' a b) {N:Nat->Prop} (hN:∀h,N h↔(a<=h/\h<b)):TrS E H w E' H' w' N:=
 ⟨h.agree,fun x=>by rw [h.dom,hN],h.zmono,h.znew,h.own,h.tape,h.os,h.output,h.size,h.old,h.shapes,h.sig⟩
theorem TrS.to_tr {E:Env} {H:Heap} {w:World} {E':Env} {H':Heap} {w':World} {a b:Nat} {N:Nat->Prop} (h:TrS E H w E' H' w' N) (hab:a<=b) (hN:∀h,N h↔(a<=h/\h<b)):Tr E H w E' H' w' a b:=
 ⟨hab,h.agree,fun x=>by rw [h.dom,hN],h.zmono,h.znew,h.own,h.tape,h.os,h.output,h.size,h.old,h.shapes,h.sig⟩
theorem TrS.vr {E:Env} {H:Heap} {w:World} {E':Env} {H':Heap} {w':World} {N:Nat->Prop} (hr:HR E H w) (h:TrS E H w E' H' w' N) {v:AV} {cv:Value} (hv:VR E w v cv):VR E' w' v cv:=
 hv.mono (fun x hx=>⟨(h.dom x).2 (.inl hx),h.agree x hx⟩)
  (fun x hx=>⟨h.zmono x hx,h.old x (hr.zlt x hx) fun p hp e=>hr.nz p hp (e▸hx)⟩) h.shapes h.sig
section
theorem zCa {f g:Nat->Bool}:∀{al:List (Nat×Nat×HO)},(∀x∈al,f x.1=g x.1)->within f al=within g al
 | [],_=>rfl
 | (i,h,o)::r,hh=>by
  have h1:f i=g i:=hh _ (.head _);simp only [within,h1,zCa fun x hx=>hh x (.tail _ hx)]
theorem zDw {f:Nat->Bool}:∀{a b:List (Nat×Nat×HO)},within f (a++b)=within f a++within f b
 | [],_=>rfl
 | (i,h,o)::r,b=>by
  simp only [List.cons_append,within];split
  ·rw [zDw];rfl
  ·rw [zDw]
theorem zCL {f:Nat->Bool}:∀{al:List (Nat×Nat×HO)},(∀x∈al,f x.1=false)->within f al=[]
 | [],_=>rfl
 | (i,h,o)::r,hh=>by
  have h1:f i=false:=hh _ (.head _);simp only [within,h1];exact zCL fun x hx=>hh x (.tail _ hx)
theorem zHo {f g:Nat->Bool}:∀{al:List (Nat×Nat×HO)},(∀x∈al,g x.1=true->f x.1=true)->(within f al).Perm (within g al++within (fun i=>f i&&!g i) al)
 | [],_=>.refl _
 | (i,h,o)::r,hh=>by
  have ih:=zHo fun x hx=>hh x (.tail _ hx)
  have h1:g i=true->f i=true:=hh _ (.head _);simp only [within];cases hf:f i <;> cases hg:g i
  ·simpa using ih
  ·exact absurd (h1 hg) (by simp [hf])
  ·simpa using (ih.cons (h,o)).trans List.perm_middle.symm
  ·simpa using ih.cons (h,o)
theorem zFS {mask:Nat}:∀{al:List (Nat×Nat×HO)} {j:Nat},(zAy mask al).testBit j=true↔mask.testBit j=true/\∃x∈al,x.1=j
 | [],j=>by simp [zAy]
 | (i,h,o)::r,j=>by
  simp only [zAy];have ih:=zFS (mask:=mask) (al:=r) (j:=j);split
  ·rename_i hi;rw [Nat.testBit_or,Bool.or_eq_true,Nat.testBit_two_pow,ih];simp only [decide_eq_true_eq,List.mem_cons,exists_eq_or_imp]
   constructor
   ·rintro (h | ⟨h1,h2⟩)
    ·subst h;exact ⟨hi,.inl rfl⟩
    ·exact ⟨h1,.inr h2⟩
   ·rintro ⟨h1,h | h⟩
    ·exact .inl h
    ·exact .inr ⟨h1,h⟩
  ·rename_i hi;rw [ih];simp only [List.mem_cons,exists_eq_or_imp]
   constructor
   ·rintro ⟨h1,h2⟩;exact ⟨h1,.inr h2⟩
   ·rintro ⟨h1,h | h⟩
    ·exact absurd h1 (by rw [←h];simp [hi])
    ·exact ⟨h1,h⟩
theorem zLL:∀{ts:List Nat} {fr:Fr} {t:Nat} {v:AV},(only ts fr).get t=some v->t∈ts/\fr.get t=some v
 | [],_,_,_,h=>by simp [only,Fr.get] at h
 | t'::ts,fr,t,v,h=>by
  simp only [only] at h;split at h
  ·rename_i u hu;simp only [Fr.get] at h;split at h
   ·rename_i e;cases h;rw [←zb e];exact ⟨.head _,hu⟩
   ·exact let ⟨a,b⟩:=zLL h;⟨.tail _ a,b⟩
  ·exact let ⟨a,b⟩:=zLL h;⟨.tail _ a,b⟩
theorem Fr.get_put:∀(fr:Fr) (n:Nat) (v:AV) (t:Nat),(fr.put n v).get t=if n=t then some v else fr.get t
 | [],n,v,t=>by
  simp only [Fr.put,Fr.get];split
  ·rename_i e;simp [zb e]
  ·rename_i e;simp [zAg e]
 | (k,u)::r,n,v,t=>by
  simp only [Fr.put];split
  ·rename_i e;have e:=zb e;subst e;simp only [Fr.get];split
   ·rename_i e;simp [zb e]
   ·rename_i e;simp [zAg e]
  ·rename_i e;simp only [Fr.get,Fr.get_put r n v t];split
   ·rename_i e2;have:=zAg e;have e2:=zb e2;subst e2;rw [if_neg (fun h=>this h.symm)]
   ·rfl
def scan (L:Nat->Bool) (fr0:Fr) (t:Nat):List (Nat×Option Nat×AV)->Option AV
 | []=>fr0.get t
 | (i,d,v)::r=>match L i,d with
  | true,some d=>if d=t then some v else scan L fr0 t r
  | _,_=>scan L fr0 t r
theorem zH3 {L:Nat->Bool} {fr0:Fr} {t:Nat} {r:List (Nat×Option Nat×AV)}:∀{nw:List (Nat×Option Nat×AV)},(∀x∈nw,L x.1=true->x.2.1≠some t)->scan L fr0 t (nw++r)=scan L fr0 t r
 | [],_=>rfl
 | (i,d,v)::nw,h=>by
  have ih:=zH3 (r:=r) (fr0:=fr0) fun x hx=>h x (.tail _ hx)
  have h1:L i=true->d≠some t:=h _ (.head _);simp only [List.cons_append,scan];split
  ·rename_i d' hl;rw [if_neg fun e=>h1 hl (by rw [e]),ih]
  ·exact ih
theorem zGU {L L':Nat->Bool} {fr0:Fr} {t:Nat}:∀{r:List (Nat×Option Nat×AV)},(∀x∈r,x.2.1=some t->L x.1=L' x.1)->scan L fr0 t r=scan L' fr0 t r
 | [],_=>rfl
 | (i,d,v)::r,h=>by
  have ih:=zGU (fr0:=fr0) fun x hx=>h x (.tail _ hx)
  have h1:d=some t->L i=L' i:=h _ (.head _);simp only [scan];cases d with
  | none=>simpa using ih
  | some d=>
   by_cases e:d=t
   ·subst e;rw [h1 rfl,ih]
   ·cases L i <;> cases L' i <;> simp [e,ih]
def cur (L:Nat->Bool):List (Nat×Nat)->List (Heap×Nat)->Option (Heap×Nat)
 | [],x::_=>some x
 | (c,_)::ch,x::ms=>match L c with
  | true=>some x
  | false=>cur L ch ms
 | _,[]=>none
theorem zKl {L L':Nat->Bool}:∀{ch:List (Nat×Nat)} {ms:List (Heap×Nat)},(∀c∈ch,L c.1=L' c.1)->cur L ch ms=cur L' ch ms
 | [],[],_=>rfl
 | [],_::_,_=>rfl
 | (c,p)::ch,[],_=>rfl
 | (c,p)::ch,x::ms,h=>by
  have h1:L c=L' c:=h _ (.head _);simp only [cur,h1,zKl fun x hx=>h x (.tail _ hx)]
theorem zJn {L:Nat->Bool} {ch:List (Nat×Nat)} {ms:List (Heap×Nat)}:∀{nc:List (Nat×Nat)} {nm:List (Heap×Nat)},nm.length=nc.length->(∀c∈nc,L c.1=false)->cur L (nc++ch) (nm++ms)=cur L ch ms
 | [],[],_,_=>rfl
 | (c,p)::nc,x::nm,hl,h=>by
  have h1:L c=false:=h _ (.head _);simp only [List.cons_append,cur,h1];exact zJn (by simpa using hl) fun x hx=>h x (.tail _ hx)
 | [],_::_,hl,_=>by simp at hl
 | _::_,[],hl,_=>by simp at hl
theorem zOu {L:Nat->Bool} {ch:List (Nat×Nat)} {x:Heap×Nat} {ms:List (Heap×Nat)} (h:∀c∈ch,L c.1=true):cur L ch (x::ms)=some x:=by
 cases ch with
 | nil=>rfl
 | cons c ch=>
  have h1:L c.1=true:=h _ (.head _);obtain ⟨c,p⟩:=c;simp only [cur,h1]
inductive DStep (G:Cx) (call:Call) (i:Nat) (o:XOper) (d:XD) (s:DS):DS->Prop where
 | skip:wantx (only d.looks s.fr) o.guard=some false->DStep G call i o d s { s with fr:=putd s.fr o.dst (.tup []),tr:=(i,o.dst,.tup [])::s.tr }
 | pure (v:AV):wantx (only d.looks s.fr) o.guard=some true->xo G ze (only d.looks s.fr) [] s.nx o.op=some (v,[],s.nx) →
   DStep G call i o d s { s with fr:=putd s.fr o.dst v,tr:=(i,o.dst,v)::s.tr }
 | read (v:AV):wantx (only d.looks s.fr) o.guard=some true->zI o.op=1 →
   DStep G call i o d s { s with fr:=putd s.fr o.dst v,rd:=⟨i,o.op,only d.looks s.fr,d.preds,v⟩::s.rd,tr:=(i,o.dst,v)::s.tr }
 | alloc (v:AV) (ob:HO):wantx (only d.looks s.fr) o.guard=some true->xo G ze (only d.looks s.fr) [] s.nx o.op=some (v,[(s.nx,ob)],s.nx+1) →
   DStep G call i o d s { s with fr:=putd s.fr o.dst v,nx:=s.nx+1,al:=(i,s.nx,ob)::s.al,tr:=(i,o.dst,v)::s.tr }
 | chain (v:AV) (m:Heap) (inc:Nat) (ms:List (Heap×Nat)) (m':Heap) (n:Nat):wantx (only d.looks s.fr) o.guard=some true->s.ms=(m,inc)::ms →
   (∀c∈s.ch,d.preds.testBit c.1=true)->xo G call (only d.looks s.fr) (within (but d.preds inc) s.al++m) s.nx o.op=some (v,m',n) →
   DStep G call i o d s { s with fr:=putd s.fr o.dst v,nx:=n,ms:=(m',inc ||| zAy d.preds s.al)::s.ms,ch:=(i,d.preds)::s.ch,tr:=(i,o.dst,v)::s.tr }
theorem zPs {G:Cx} {call:Call} {i:Nat} {o:XOper} {d:XD} {s s':DS} (h:zB9 G call i o d s=some s'):DStep G call i o d s s':=by
 unfold zB9 at h;simp only at h;split at h
 ·rename_i hw;cases h;exact .skip hw
 ·rename_i hw;split at h
  ·split at h
   ·rename_i v n hx;split at h
    ·rename_i hn;cases h;rw [zb hn] at hx;exact .pure v hw hx
    ·cases h
   ·cases h
  ·rename_i hk;split at h
   ·split at h
    ·cases h;exact .read _ hw hk
    ·cases h
   ·cases h
  ·split at h
   ·rename_i v hh ob n hx;split at h
    ·rename_i hn;split at h
     ·rename_i hn2;cases h;rw [zb hn,zb hn2] at hx;rw [zb hn,zb hn2];exact .alloc v ob hw hx
     ·cases h
    ·cases h
   ·rename_i v n hx;split at h
    ·rename_i hn;cases h;rw [zb hn] at hx;exact .pure v hw hx
    ·cases h
   ·cases h
  ·split at h
   ·rename_i m inc ms hms;split at h
    ·rename_i hc;split at h
     ·rename_i v m' n hx;cases h;exact .chain v m inc ms m' n hw hms (fun c hm=>List.all_eq_true.1 hc c hm) hx
     ·cases h
    ·cases h
   ·cases h
 ·cases h
theorem zIS {G:Cx} {call:Call}:∀{ops:List XOper} {ds:List XD} {i:Nat} {s s':DS},zAz G call i ops ds s=some s' →
  ∃st:Nat->DS,st 0=s/\st ops.length=s'/\∀j o,ops[j]? = some o->∃d,ds[j]? = some d/\DStep G call (i+j) o d (st j) (st (j+1))
 | [],ds,i,s,s',h=>by
  simp only [zAz] at h;cases h;exact ⟨fun _=>s,rfl,rfl,fun j o ho=>by simp at ho⟩
 | o::r,[],i,s,s',h=>by simp [zAz] at h
 | o::r,d::ds,i,s,s',h=>by
  simp only [zAz] at h;split at h
  ·rename_i s1 h1;obtain ⟨st,e0,e1,e2⟩:=zIS h;refine ⟨fun | 0=>s | j+1=>st j,rfl,by simpa using e1,fun j o' ho=>?_⟩
   cases j with
   | zero=>
    simp at ho;subst ho;exact ⟨d,rfl,by show DStep G call (i+0) o d s (st 0);rw [e0];exact zPs h1⟩
   | succ j=>
    obtain ⟨d',h2,h3⟩:=e2 j o' (by simpa using ho)
    exact ⟨d',by simpa using h2,by rw [show i+(j+1)=i+1+j by omega];exact h3⟩
  ·cases h
structure Later (s s':DS) (lo:Nat):Prop where
 ch:∃nc nm,s'.ch=nc++s.ch/\s'.ms=nm++s.ms/\nm.length=nc.length/\∀c∈nc,lo<=c.1/\∀c0∈s.ch,c.2.testBit c0.1=true
 al:∃na,s'.al=na++s.al/\∀x∈na,lo<=x.1
 tr:∃nt,s'.tr=nt++s.tr/\∀x∈nt,lo<=x.1
 rd:∀r∈s.rd,r∈s'.rd
 nx:s.nx<=s'.nx
theorem Later.refl (s:DS) (lo:Nat):Later s s lo:=
 ⟨⟨[],[],rfl,rfl,rfl,fun c h=>by simp at h⟩,⟨[],rfl,fun c h=>by simp at h⟩,⟨[],rfl,fun c h=>by simp at h⟩,fun _ h=>h,Nat.le_refl _⟩
theorem Later.trans {a b c:DS} {lo lo':Nat} (h:Later a b lo) (k:Later b c lo') (hl:lo<=lo'):Later a c lo:=by
 obtain ⟨nc,nm,h1,h2,h3,h4⟩:=h.ch;obtain ⟨nc',nm',k1,k2,k3,k4⟩:=k.ch;obtain ⟨na,h5,h6⟩:=h.al;obtain ⟨na',k5,k6⟩:=k.al;obtain ⟨nt,h7,h8⟩:=h.tr;obtain ⟨nt',k7,k8⟩:=k.tr;refine ⟨⟨nc'++nc,nm'++nm,by rw [k1,h1,List.append_assoc],by rw [k2,h2,List.append_assoc],by simp [h3,k3],fun c hc=>?_⟩,
  ⟨na'++na,by rw [k5,h5,List.append_assoc],fun x hx=>?_⟩,⟨nt'++nt,by rw [k7,h7,List.append_assoc],fun x hx=>?_⟩,fun r hr=>k.rd r (h.rd r hr),Nat.le_trans h.nx k.nx⟩
 ·rcases List.mem_append.1 hc with hc | hc
  ·exact ⟨Nat.le_trans hl (k4 c hc).1,fun c0 h0=>(k4 c hc).2 c0 (h1▸List.mem_append_right _ h0)⟩
  ·exact h4 c hc
 ·rcases List.mem_append.1 hx with hx | hx
  ·exact Nat.le_trans hl (k6 x hx)
  ·exact h6 x hx
 ·rcases List.mem_append.1 hx with hx | hx
  ·exact Nat.le_trans hl (k8 x hx)
  ·exact h8 x hx
structure Low (s:DS) (i:Nat):Prop where
 ch:∀c∈s.ch,c.1<i
 al:∀c∈s.al,c.1<i
 tr:∀c∈s.tr,c.1<i
theorem DStep.ext {G:Cx} {call:Call} {i:Nat} {o:XOper} {d:XD} {s s':DS} (hc:zDv call) (h:DStep G call i o d s s'):Later s s' i:=by
 have one:∀(v:AV),∃nt,(i,o.dst,v)::s.tr=nt++s.tr/\∀x∈nt,i<=x.1:=fun v=>⟨[(i,o.dst,v)],rfl,fun x hx=>by simp at hx;subst hx;exact Nat.le_refl _⟩
 have e:=Later.refl s i;cases h with
 | skip _=>exact { e with tr:=one _ }
 | pure v _ _=>exact { e with tr:=one _ }
 | read v _ _=>exact { e with tr:=one _,rd:=fun r hr=>.tail _ hr }
 | alloc v ob _ _=>exact { e with tr:=one _,al:=⟨[_],rfl,fun x hx=>by simp at hx;subst hx;exact Nat.le_refl _⟩,nx:=Nat.le_succ _ }
 | chain v m inc ms m' n _ hms hch hx=>
  exact { e with tr:=one _,ch:=⟨[_],[_],rfl,rfl,rfl,fun c hm=>by simp at hm;subst hm;exact ⟨Nat.le_refl _,hch⟩⟩,nx:=zQr hc (zFP.symm.trans hx) }
theorem DStep.low {G:Cx} {call:Call} {i:Nat} {o:XOper} {d:XD} {s s':DS} (h:DStep G call i o d s s') (l:Low s i):Low s' (i+1):=by
 have up:Low s (i+1):=⟨fun c h=>Nat.lt_succ_of_lt (l.ch c h),fun c h=>Nat.lt_succ_of_lt (l.al c h),fun c h=>Nat.lt_succ_of_lt (l.tr c h)⟩
 have one:∀(v:AV),∀c∈(i,o.dst,v)::s.tr,c.1<i+1:=fun v c hc=>by
  rcases List.mem_cons.1 hc with hc | hc
  ·subst hc;exact Nat.lt_succ_self _
  ·exact up.tr c hc
 cases h with
 | skip _=>exact { up with tr:=one _ }
 | pure v _ _=>exact { up with tr:=one _ }
 | read v _ _=>exact { up with tr:=one _ }
 | alloc v ob _ _=>
  refine { up with tr:=one _,al:=fun c hc=>?_ }
  rcases List.mem_cons.1 hc with hc | hc
  ·subst hc;exact Nat.lt_succ_self _
  ·exact up.al c hc
 | chain v m inc ms m' n _ hms hch hx=>
  refine { up with tr:=one _,ch:=fun c hc=>?_ }
  rcases List.mem_cons.1 hc with hc | hc
  ·subst hc;exact Nat.lt_succ_self _
  ·exact up.ch c hc
theorem DStep.word {G:Cx} {call:Call} {i:Nat} {o:XOper} {d:XD} {s s':DS} (h:DStep G call i o d s s'):∃v,s'.tr=(i,o.dst,v)::s.tr/\s'.fr=putd s.fr o.dst v:=by
 cases h <;> exact ⟨_,rfl,rfl⟩
end
end Go.Sy
namespace Go.Sy
theorem zAH {P:Program} {ops:Array Oper} {o:Oper}:(zm P ops o).dst=o.dst:=by
 unfold zm;split
 ·rfl
 ·split <;> rfl
theorem zJU {P:Program} {ops:Array Oper} {o:Oper} (h:o.guard=none):zm P ops o=⟨o.dst,(zAA P o.op).getD .bad,none⟩:=by
 simp [zm,h]
theorem zJV {P:Program} {ops:Array Oper} {o:Oper} {j s:Nat} {b:Bool} (h:o.guard=some (j,b)) (hs:(ops[j]?).bind (·.dst)=some s):zm P ops o=⟨o.dst,(zAA P o.op).getD .bad,some (s,b)⟩:=by
 simp [zm,h,hs]
theorem zJW {P:Program} {ops:Array Oper} {o:Oper} {j:Nat} {b:Bool} (h:o.guard=some (j,b)) (hs:(ops[j]?).bind (·.dst)=none):zm P ops o=⟨o.dst,.bad,none⟩:=by
 simp [zm,h,hs]
theorem zDM {P:Program} {ops:Array Oper} {o:Oper} (h:(zm P ops o).op≠.bad):zAA P o.op=some (zm P ops o).op:=by
 have key:((zAA P o.op).getD .bad)≠.bad->zAA P o.op=some ((zAA P o.op).getD .bad):=fun h=>by
  cases hc:zAA P o.op with
  | none=>simp [hc] at h
  | some y=>rfl
 cases hg:o.guard with
 | none=>rw [zJU hg] at *;exact key h
 | some jb=>
  obtain ⟨j,b⟩:=jb;cases hs:(ops[j]?).bind (·.dst) with
  | none=>rw [zJW hg hs] at h;exact absurd rfl h
  | some s=>rw [zJV hg hs] at *;exact key h
theorem zBc {P:Program} {ops:Array Oper} {o:Oper} {E:Env} {w:World} {fr:Fr} {a:Act} {nt:Nat} {b:Bool} (hf:FrR E w fr a nt) (h:wantx fr (zm P ops o).guard=some b)
  (hb:b=false\/(zm P ops o).op≠.bad):Region.wanted o (yielded ops a.tmps)=b:=by
 cases hg:o.guard with
 | none=>
  rw [zJU hg] at h;simp only [wantx,Option.some.injEq] at h;subst h;simp [Region.wanted,hg]
 | some jb=>
  obtain ⟨j,want⟩:=jb;cases hs:(ops[j]?).bind (·.dst) with
  | some s=>
   rw [zJV hg hs] at h;simp only [wantx] at h;split at h
   ·rename_i c hc;have h1:=(hf.get s _ hc).of_bool;have h2:a.tmps[s]? = some (.bool c):=by
     rw [Array.getD_eq_getD_getElem?] at h1;cases e:a.tmps[s]? with
     | none=>rw [e] at h1;simp [undef] at h1
     | some u=>rw [e] at h1;simpa using h1
    have h3:yielded ops a.tmps j=some c:=by simp [yielded,hs,h2]
    simp only [Region.wanted,hg,h3];simp only [Option.some.injEq] at h;rw [←h];cases c <;> cases want <;> rfl
   ·rename_i hc;cases h;have h1:a.tmps.getD s undef=.tuple #[]:=by
     obtain ⟨vs,e1,e2⟩:=(hf.get s _ hc).of_tup;have:vs=#[]:=by
      have:=e2.of_nil;cases vs;simp_all
     rw [e1,this]
    have h3:yielded ops a.tmps j=none:=by
     simp only [yielded,hs,Option.bind_some];rw [Array.getD_eq_getD_getElem?] at h1;cases e:a.tmps[s]? with
     | none=>rfl
     | some u=>rw [e] at h1;simp at h1;subst h1;rfl
    simp [Region.wanted,hg,h3]
   ·cases h
  | none=>
   rw [zJW hg hs] at h hb;simp only [wantx,Option.some.injEq] at h;subst h;simp at hb
structure DRun (P:Program) (G:Cx) (call:Call) (ops:Array Oper) (ds:List XD) (st:Nat->DS) (H0:Heap) (fr0:Fr) (nx0 nt:Nat):Prop where
 step:∀(j:Nat) (o:Oper),ops[j]? = some o->∃d,ds[j]? = some d/\DStep G call j (zm P ops o) d (st j) (st (j+1))
 init:st 0=⟨fr0,nx0,[(H0,0)],[],[],[],[]⟩
 apart:∀(j k:Nat) (oj ok:Oper) (dj dk:XD),j<k->ops[j]? = some oj->ops[k]? = some ok->ds[j]? = some dj->ds[k]? = some dk->dk.preds.testBit j=true\/zFQ oj.dst dj ok.dst dk=true
 low:∀(j:Nat) (d:XD) (k:Nat),ds[j]? = some d->d.preds.testBit k=true->k<j
 dst:∀(j:Nat) (o:Oper) (d:Nat),ops[j]? = some o->o.dst=some d->d<nt
 reads:∀r∈(st ops.size).rd,zBg G (st ops.size).al (st ops.size).nx r (st ops.size).ch (st ops.size).ms=true
namespace DRun
variable {P:Program} {G:Cx} {call:Call} {ops:Array Oper} {ds:List XD} {st:Nat->DS} {H0:Heap} {fr0:Fr} {nx0 nt:Nat}
theorem get (_:DRun P G call ops ds st H0 fr0 nx0 nt) {j:Nat} (h:j<ops.size):∃o,ops[j]? = some o:=⟨ops[j],Array.getElem?_eq_getElem h⟩
theorem lows (R:DRun P G call ops ds st H0 fr0 nx0 nt):∀j,j<=ops.size->Low (st j) j
 | 0,_=>by rw [R.init];exact ⟨fun c h=>by simp at h,fun c h=>by simp at h,fun c h=>by simp at h⟩
 | j+1,hj=>by
  obtain ⟨o,ho⟩:=R.get (j:=j) hj;obtain ⟨d,_,hs⟩:=R.step j o ho;exact hs.low (R.lows j (Nat.le_of_lt hj))
theorem later (hc:zDv call) (R:DRun P G call ops ds st H0 fr0 nx0 nt) (i:Nat):∀k,i+k<=ops.size->Later (st i) (st (i+k)) i
 | 0,_=>.refl _ _
 | k+1,hj=>by
  obtain ⟨o,ho⟩:=R.get (j:=i+k) hj;obtain ⟨d,_,hs⟩:=R.step _ o ho;exact (R.later hc i k (Nat.le_of_lt hj)).trans (hs.ext hc) (Nat.le_add_right _ _)
theorem last (hc:zDv call) (R:DRun P G call ops ds st H0 fr0 nx0 nt) {i:Nat} (hi:i<=ops.size):Later (st i) (st ops.size) i:=by
 have:=R.later hc i (ops.size-i) (by omega)
 rwa [show i+(ops.size-i)=ops.size by omega] at this
theorem mono (hc:zDv call) (R:DRun P G call ops ds st H0 fr0 nx0 nt) {i j:Nat} (hij:i<=j) (hj:j<=ops.size):(st i).nx<=(st j).nx:=by
 have:=(R.later hc i (j-i) (by omega)).nx
 rwa [show i+(j-i)=j by omega] at this
theorem words (R:DRun P G call ops ds st H0 fr0 nx0 nt):∀j,j<=ops.size->∀x∈(st j).tr,∃o,ops[x.1]? = some o/\x.2.1=o.dst
 | 0,_=>by rw [R.init];intro x h;simp at h
 | j+1,hj=>by
  obtain ⟨o,ho⟩:=R.get (j:=j) hj;obtain ⟨d,_,hs⟩:=R.step j o ho;obtain ⟨v,e,_⟩:=hs.word;intro x hx;rw [e] at hx;rcases List.mem_cons.1 hx with hx | hx
  ·subst hx;exact ⟨o,ho,zAH⟩
  ·exact R.words j (Nat.le_of_lt hj) x hx
theorem frames (R:DRun P G call ops ds st H0 fr0 nx0 nt) (t:Nat):∀j,j<=ops.size->scan (fun _=>true) fr0 t (st j).tr=(st j).fr.get t
 | 0,_=>by rw [R.init];rfl
 | j+1,hj=>by
  obtain ⟨o,ho⟩:=R.get (j:=j) hj;obtain ⟨d,_,hs⟩:=R.step j o ho;obtain ⟨v,e,e2⟩:=hs.word;rw [e,e2];have ih:=R.frames t j (Nat.le_of_lt hj);cases hd:(zm P ops o).dst with
  | none=>simpa [scan,putd] using ih
  | some s=>simp only [scan,putd,Fr.get_put,ih]
theorem chains (R:DRun P G call ops ds st H0 fr0 nx0 nt):∀j,j<=ops.size->∀c∈(st j).ch,∃d,ds[c.1]? = some d/\c.2=d.preds
 | 0,_=>by rw [R.init];intro x h;simp at h
 | j+1,hj=>by
  obtain ⟨o,ho⟩:=R.get (j:=j) hj;obtain ⟨d,hd,hs⟩:=R.step j o ho;have ih:=R.chains j (Nat.le_of_lt hj);generalize hst:st (j+1)=s' at hs;generalize hst0:st j=s at hs ih;cases hs with
  | chain v m inc ms m' n _ _ _ _=>
   intro c hc;rcases List.mem_cons.1 hc with hc | hc
   ·subst hc;exact ⟨d,hd,rfl⟩
   ·exact ih c hc
  | _=>exact ih
structure Inv (dl:List Deferred) (st:Nat->DS) (n:Nat) (E0:Env) (H0:Heap) (w0:World) (fr0:Fr) (nt:Nat) (L:Nat->Bool) (E:Env) (w:World) (a:Act):Prop where
 size:a.tmps.size=nt
 defers:a.defers=dl
 fr:∀t v,scan L fr0 t (st n).tr=some v->VR E w v (a.tmps.getD t undef)
 heap:∃m inc,cur L (st n).ch (st n).ms=some (m,inc)/\(∀j,inc.testBit j=true->L j=true)/\HR E (within (fun j=>L j&&!inc.testBit j) (st n).al++m) w ∧
  TrS E0 H0 w0 E (within (fun j=>L j&&!inc.testBit j) (st n).al++m) w fun h=>∃j,j<n/\L j=true/\(st j).nx<=h/\h<(st (j+1)).nx
theorem zLM {n:Nat}:∀{l:List Nat},memb n l=true↔n∈l
 | []=>by simp [memb]
 | a::r=>by
  simp only [memb];split
  ·rename_i h;simp [zb h]
  ·rename_i h;have:=zAg h;rw [zLM];simp [this]
theorem zIC {x y:Option Nat} {dx dy:XD} (h:zFQ x dx y dy=true):(∀d,x=some d->d ∉ dy.looks)/\(∀d,y=some d->d ∉ dx.looks)/\(∀d,x=some d->y≠some d):=by
 simp only [zFQ,Bool.and_eq_true] at h;obtain ⟨⟨h1,h2⟩,h3⟩:=h;refine ⟨fun d e hm=>?_,fun d e hm=>?_,fun d e e2=>?_⟩
 ·subst e;simp [zLM.2 hm] at h1
 ·subst e;simp [zLM.2 hm] at h2
 ·subst e;subst e2;simp at h3
section
variable {dl:List Deferred} {E0 E:Env} {w0 w:World} {a:Act} {L L':Nat->Bool} {i:Nat} {o:Oper} {d:XD}
theorem looked (hc:zDv call) (R:DRun P G call ops ds st H0 fr0 nx0 nt) (ho:ops[i]? = some o) (hd:ds[i]? = some d) (hL:L i=false)
  (hcl:∀(k:Nat) (dk:XD),L k=true->ds[k]? = some dk->∀j,dk.preds.testBit j=true->L j=true) (hpre:∀j,d.preds.testBit j=true->L j=true)
  (inv:Inv dl st ops.size E0 H0 w0 fr0 nt L E w a):FrR E w (only d.looks (st i).fr) a nt:=by
 have hi:i<ops.size:=(Array.getElem?_eq_some_iff.1 ho).1;refine ⟨inv.size,fun t v ht=>?_⟩
 obtain ⟨m1,m2⟩:=zLL ht;apply inv.fr;rw [←m2,←R.frames t i (Nat.le_of_lt hi)];obtain ⟨nw,e1,e2⟩:=(R.last hc (Nat.le_of_lt hi)).tr;rw [e1,zH3]
 ·apply zGU;intro x hx hxt;obtain ⟨oj,h1,h2⟩:=R.words i (Nat.le_of_lt hi) x hx;have hlt:=(R.lows i (Nat.le_of_lt hi)).tr x hx;obtain ⟨dj,h3,_⟩:=R.step _ _ h1;rcases R.apart _ _ _ _ _ _ hlt h1 ho h3 hd with h4 | h4
  ·exact hpre _ h4
  ·exact absurd m1 ((zIC h4).1 t (by rw [←h2];exact hxt))
 ·intro x hx hl hxt;obtain ⟨oj,h1,h2⟩:=R.words ops.size (Nat.le_refl _) x (e1▸List.mem_append_left _ hx)
  have hge:=e2 x hx;have hlt:i<x.1:=by
   rcases Nat.eq_or_lt_of_le hge with h | h
   ·rw [←h,hL] at hl;cases hl
   ·exact h
  obtain ⟨dj,h3,_⟩:=R.step _ _ h1;rcases R.apart _ _ _ _ _ _ hlt ho h1 hd h3 with h4 | h4
  ·have:=hcl _ _ hl h3 _ h4;rw [hL] at this;cases this
  ·exact (zIC h4).2.1 t (by rw [←h2];exact hxt) m1
theorem behind (hc:zDv call) (R:DRun P G call ops ds st H0 fr0 nx0 nt) (ho:ops[i]? = some o) (hd:ds[i]? = some d) (hL:L i=false) (hL':∀j,L' j=(L j||j==i))
  (hcl:∀(k:Nat) (dk:XD),L k=true->ds[k]? = some dk->∀j,dk.preds.testBit j=true->L j=true)
  (inv:Inv dl st ops.size E0 H0 w0 fr0 nt L E w a) {E':Env} {w':World} {v:AV} {cv:Value} (hw:(st (i+1)).tr=(i,(zm P ops o).dst,v)::(st i).tr)
  (hmono:∀{v cv},VR E w v cv->VR E' w' v cv) (hv:VR E' w' v cv):∀t u,scan L' fr0 t (st ops.size).tr=some u->VR E' w' u ((a.put o.dst cv).tmps.getD t undef):=by
 have hi:i<ops.size:=(Array.getElem?_eq_some_iff.1 ho).1;intro t u hu;by_cases hdt:o.dst=some t
 ·obtain ⟨nw,e1,e2⟩:=(R.last hc (i:=i+1) hi).tr;rw [e1,zH3,hw] at hu
  ·have h1:L' i=true:=by simp [hL']
   rw [zAH,hdt] at hu;simp only [scan,h1,if_true,Option.some.injEq] at hu;subst hu;have hlt:t<a.tmps.size:=by rw [inv.size];exact R.dst i o t ho hdt
   simpa [Act.put,hdt,Array.getElem?_setIfInBounds,hlt] using hv
  ·intro x hx hl hxt;have hge:=e2 x hx;have hl:L x.1=true:=by
    rw [hL'] at hl;have:(x.1==i)=false:=by simp;omega
    simpa [this] using hl
   obtain ⟨oj,h1,h2⟩:=R.words ops.size (Nat.le_refl _) x (e1▸List.mem_append_left _ hx)
   obtain ⟨dj,h3,_⟩:=R.step _ _ h1;rcases R.apart i x.1 _ _ _ _ (by omega) ho h1 hd h3 with h4 | h4
   ·have:=hcl _ _ hl h3 _ h4;rw [hL] at this;cases this
   ·exact (zIC h4).2.2 t hdt (by rw [←h2];exact hxt)
 ·rw [zGU (L':=L)] at hu
  ·have h1:=hmono (inv.fr t u hu);have h2:(a.put o.dst cv).tmps.getD t undef=a.tmps.getD t undef:=by
    unfold Act.put;split
    ·rename_i dd hdd;have:dd≠t:=fun e=>hdt (by rw [hdd,e])
     simp [Array.getElem?_setIfInBounds_ne this]
    ·rfl
   rw [h2];exact h1
  ·intro x hx hxt;obtain ⟨oj,h1,h2⟩:=R.words ops.size (Nat.le_refl _) x hx;rw [hL'];have:x.1≠i:=fun e=>by
    rw [e,ho] at h1;cases h1;exact hdt (by rw [←h2];exact hxt)
   simp [this]
theorem zTu (hc:zDv call) (R:DRun P G call ops ds st H0 fr0 nx0 nt) (hi:i<ops.size) (h:(st (i+1)).al=(st i).al):∀x∈(st ops.size).al,x.1≠i:=by
 obtain ⟨na,e1,e2⟩:=(R.last hc (i:=i+1) hi).al;intro x hx;rw [e1,h] at hx;rcases List.mem_append.1 hx with hx | hx
 ·have:=e2 x hx;omega
 ·have:=(R.lows i (Nat.le_of_lt hi)).al x hx;omega
theorem zTv (hc:zDv call) (R:DRun P G call ops ds st H0 fr0 nx0 nt) (hi:i<ops.size) (h:(st (i+1)).ch=(st i).ch):∀x∈(st ops.size).ch,x.1≠i:=by
 obtain ⟨nc,nm,e1,_,_,e2⟩:=(R.last hc (i:=i+1) hi).ch;intro x hx;rw [e1,h] at hx;rcases List.mem_append.1 hx with hx | hx
 ·have:=(e2 x hx).1;omega
 ·have:=(R.lows i (Nat.le_of_lt hi)).ch x hx;omega
theorem zSE (hc:zDv call) (R:DRun P G call ops ds st H0 fr0 nx0 nt) (hi:i<ops.size) (hL:L i=false) (hfr:Fresh E0 nx0 (st ops.size).nx) {H:Heap}
  (ht:TrS E0 H0 w0 E H w fun h=>∃j,j<ops.size/\L j=true/\(st j).nx<=h/\h<(st (j+1)).nx):Fresh E (st i).nx (st (i+1)).nx:=by
 intro h h1 h2 hD;rcases (ht.dom h).1 hD with h3 | ⟨j,hj,hl,h4,h5⟩
 ·have e0:(st 0).nx=nx0:=by rw [R.init]
  have:=R.mono hc (Nat.zero_le i) (Nat.le_of_lt hi);have:=R.mono hc (i:=i+1) hi (Nat.le_refl _);exact hfr h (by omega) (by omega) h3
 ·rcases Nat.lt_trichotomy i j with h | h | h
  ·have:=R.mono hc (i:=i+1) (j:=j) h (Nat.le_of_lt hj);omega
  ·subst h;rw [hL] at hl;cases hl
  ·have:=R.mono hc (i:=j+1) (j:=i) h (Nat.le_of_lt hi);omega
theorem zT4 (hi:i<ops.size) (hL':∀j,L' j=(L j||j==i)) (h:Nat):
  (∃j,j<ops.size/\L' j=true/\(st j).nx<=h/\h<(st (j+1)).nx)↔(∃j,j<ops.size/\L j=true/\(st j).nx<=h/\h<(st (j+1)).nx)\/((st i).nx<=h/\h<(st (i+1)).nx):=by
 constructor
 ·rintro ⟨j,h1,h2,h3⟩
  rw [hL',Bool.or_eq_true,beq_iff_eq] at h2;rcases h2 with h2 | h2
  ·exact .inl ⟨j,h1,h2,h3⟩
  ·subst h2;exact .inr h3
 ·rintro (⟨j,h1,h2,h3⟩ | h3)
  ·exact ⟨j,h1,by rw [hL',h2];rfl,h3⟩
  ·exact ⟨i,hi,by simp [hL'],h3⟩
theorem zMs {r:DRead} {al:List (Nat×Nat×HO)} {nx:Nat} (hi:L r.i=false) (hpre:∀j,r.preds.testBit j=true->L j=true):
  ∀{ch:List (Nat×Nat)} {ms:List (Heap×Nat)} {m:Heap} {inc:Nat},(∀c∈ch,L c.1=true->∀j,c.2.testBit j=true->L j=true)->zBg G al nx r ch ms=true->cur L ch ms=some (m,inc)->zCW G al nx r m inc=true
 | [],x::ms,m,inc,_,h,hcur=>by
  simp only [cur,Option.some.injEq] at hcur;subst hcur
  simpa [zBg] using h
 | [],[],m,inc,_,h,hcur=>by simp [cur] at hcur
 | c::ch,[],m,inc,_,h,hcur=>by simp [cur] at hcur
 | (c,p)::ch,(m0,inc0)::ms,m,inc,hch,h,hcur=>by
  have h1:L c=true->∀j,p.testBit j=true->L j=true:=hch _ (.head _);simp only [cur] at hcur;simp only [zBg] at h;split at hcur
  ·rename_i hl;cases hcur;split at h
   ·exact h
   ·split at h
    ·rename_i hp;have:=h1 hl _ hp;rw [hi] at this;cases this
    ·split at h
     ·rename_i hr;exact hr
     ·cases h
  ·rename_i hl;split at h
   ·rename_i hp;have:=hpre _ hp;rw [hl] at this;cases this
   ·have ih:=fun h=>zMs (al:=al) (nx:=nx) (ch:=ch) (ms:=ms) (m:=m) (inc:=inc) hi hpre (fun x hx=>hch x (.tail _ hx)) h hcur
    split at h
    ·exact ih h
    ·split at h
     ·exact ih h
     ·cases h
end
end DRun
end Go.Sy
namespace Go.Sy
namespace DRun
variable {P:Program} {G:Cx} {call:Call} {ops:Array Oper} {ds:List XD} {st:Nat->DS} {H0:Heap} {fr0:Fr} {nx0 nt:Nat}
variable {dl:List Deferred} {E0 E:Env} {w0 w:World} {a:Act} {L L':Nat->Bool} {i:Nat} {o:Oper} {d:XD}
theorem put_defers {a:Act} {d:Option Nat} {v:Value}:(a.put d v).defers=a.defers:=by
 unfold Act.put;split <;> rfl
theorem put_size {a:Act} {d:Option Nat} {v:Value}:(a.put d v).tmps.size=a.tmps.size:=by
 unfold Act.put;split <;> simp
theorem wpOp_of {Q:Exit->Act->World->Prop} {K:Act->World->Prop} (ho:ops[i]? = some o) (hw:Region.wanted o (yielded ops a.tmps)=true) (h:o.wp P a w K Q):wpOp P ops Q i K a w:=by
 unfold wpOp;simp only [ho,hw,if_true];exact .inl h
theorem wpOp_not {Q:Exit->Act->World->Prop} {K:Act->World->Prop} (ho:ops[i]? = some o) (hw:Region.wanted o (yielded ops a.tmps)=false) (h:K (a.put o.dst undef) w):wpOp P ops Q i K a w:=by
 unfold wpOp;simp only [ho,hw];exact h
theorem zTw {α:Type} (a b c:List α):(a++b++c).Perm (a++c++b):=by
 rw [List.append_assoc,List.append_assoc];exact List.perm_append_comm.append_left a
theorem exec (hcall:zD3 P G call) (hm:zAi P G) (R:DRun P G call ops ds st H0 fr0 nx0 nt) (hr0:HR E0 H0 w0) (hg0:GR G E0 w0) (hfr:Fresh E0 nx0 (st ops.size).nx)
  (ho:ops[i]? = some o) (hL:L i=false) (hL':∀j,L' j=(L j||j==i))
  (hcl:∀(k:Nat) (dk:XD),L k=true->ds[k]? = some dk->∀j,dk.preds.testBit j=true->L j=true) (hpre:∀d,ds[i]? = some d->∀j,d.preds.testBit j=true->L j=true)
  (inv:Inv dl st ops.size E0 H0 w0 fr0 nt L E w a) {K:Act->World->Prop} {Q:Exit->Act->World->Prop} (hK:∀E' a' w',Inv dl st ops.size E0 H0 w0 fr0 nt L' E' w' a'->K a' w'):wpOp P ops Q i K a w:=by
 have hc:zDv call:=hcall.le;have hi:i<ops.size:=(Array.getElem?_eq_some_iff.1 ho).1;obtain ⟨d,hd,hs⟩:=R.step i o ho;have hpre:=hpre d hd;have hfF:=looked hc R ho hd hL hcl hpre inv;obtain ⟨m,inc,hcur,hinc,hr,ht⟩:=inv.heap;have hg:GR G E w:=fun g v hv=>⟨ht.vr hr0 (hg0 g v hv).1,(hg0 g v hv).2.mono ht.shapes⟩
 have hfE:=zSE hc R hi hL hfr ht;have hmem:∀{j:Nat},L' j=true↔L j=true\/j=i:=fun {j}=>by rw [hL'];simp
 have close:∀{E':Env} {w':World} {v:AV} {cv:Value} {m':Heap} {inc':Nat},(st (i+1)).tr=(i,(zm P ops o).dst,v)::(st i).tr->VR E' w' v cv->cur L' (st ops.size).ch (st ops.size).ms=some (m',inc') →
   (∀j,inc'.testBit j=true->L' j=true)->HR E' (within (fun j=>L' j&&!inc'.testBit j) (st ops.size).al++m') w' →
   Tr E (within (fun j=>L j&&!inc.testBit j) (st ops.size).al++m) w E' (within (fun j=>L' j&&!inc'.testBit j) (st ops.size).al++m') w' (st i).nx (st (i+1)).nx->K (a.put o.dst cv) w':=by
  intro E' w' v cv m' inc' hw hv h1 h2 h3 h4;refine hK E' _ w' ⟨by rw [put_size];exact inv.size,by rw [put_defers];exact inv.defers,behind hc R ho hd hL hL' hcl inv hw (h4.vr hr) hv,m',inc',h1,h2,h3,ht.step h4 fun h=>zT4 hi hL' h⟩
 have same:∀{E':Env} {w':World} {v:AV} {cv:Value},(st (i+1)).tr=(i,(zm P ops o).dst,v)::(st i).tr->VR E' w' v cv->(st (i+1)).al=(st i).al->(st (i+1)).ch=(st i).ch->(st (i+1)).nx=(st i).nx →
   HR E' (within (fun j=>L j&&!inc.testBit j) (st ops.size).al++m) w' →
   Tr E (within (fun j=>L j&&!inc.testBit j) (st ops.size).al++m) w E' (within (fun j=>L j&&!inc.testBit j) (st ops.size).al++m) w' (st i).nx (st i).nx->K (a.put o.dst cv) w':=by
  intro E' w' v cv hw hv h1 h2 h3 h4 h5;have e1:cur L' (st ops.size).ch (st ops.size).ms=some (m,inc):=by
   rw [←hcur];refine zKl fun c hcm=>?_
   have:=zTv hc R hi h2 c hcm;rw [hL'];simp [this]
  have e2:within (fun j=>L' j&&!inc.testBit j) (st ops.size).al=within (fun j=>L j&&!inc.testBit j) (st ops.size).al:=by
   refine zCa fun x hx=>?_
   have:=zTu hc R hi h1 x hx;have e:L' x.1=L x.1:=by rw [hL'];simp [this]
   simp only [e]
  refine close hw hv e1 (fun j hj=>hmem.2 (.inl (hinc j hj))) (by rw [e2];exact h4) ?_
  rw [e2,h3];exact h5
 obtain ⟨nw,ew1,ew2⟩:=(R.last hc (i:=i+1) hi).al;obtain ⟨nc,nm,ec1,ec2,ec3,ec4⟩:=(R.last hc (i:=i+1) hi).ch;have low:=R.lows i (Nat.le_of_lt hi);generalize hst:st (i+1)=s1 at hs;have hst':=hst;cases hs with
 | skip hwant=>
  exact wpOp_not ho (zBc hfF hwant (.inl rfl)) (same (v:=.tup []) (cv:=undef) (by rw [hst]) (VR.mk_tup (vs:=#[]) VRs.nil) (by rw [hst]) (by rw [hst]) (by rw [hst]) hr (.refl _))
 | pure v hwant hx=>
  have hbad:(zm P ops o).op≠.bad:=fun e=>by rw [e] at hx;simp [xo,zMd] at hx
  have hr':HR E ([]++(within (fun j=>L j&&!inc.testBit j) (st ops.size).al++m)) w:=hr
  refine wpOp_of ho (zBc hfF hwant (.inr hbad)) (zFr (hr.sub (List.nil_sublist _)) hfF hg hm zDL (zDM hbad) (fun h h1 h2=>by omega) (zFP.symm.trans hx) K Q fun cv E' w' h1 h2 h3=>?_)
  obtain ⟨f1,f2⟩:=Tr.frame hr' h1 h2;exact same (v:=v) (by rw [hst]) h3 (by rw [hst]) (by rw [hst]) (by rw [hst]) f1 f2
 | read v hwant hk=>
  have hrd:=R.reads _ ((R.last hc (i:=i+1) hi).rd ⟨i,(zm P ops o).op,only d.looks (st i).fr,d.preds,v⟩ (by rw [hst];exact .head _))
  have hat:=zMs (L:=L) hL hpre (fun c hcm hl j hj=>by
   obtain ⟨dc,h1,h2⟩:=R.chains ops.size (Nat.le_refl _) c hcm;exact hcl _ _ hl h1 j (h2▸hj)) hrd hcur
  unfold zCW at hat;split at hat
  ·rename_i v' H1 n1 hx;have:=zVp hat;simp only at this hx;subst this;obtain ⟨e1,e2⟩:=zPQ hk (zFP.symm.trans hx);subst e1;subst e2;have hbad:(zm P ops o).op≠.bad:=fun e=>by rw [e] at hk;cases hk
   have hp:=zHo (f:=fun j=>L j&&!inc.testBit j) (g:=but d.preds inc) (al:=(st ops.size).al) fun x _ hx=>by
    simp only [but,Bool.and_eq_true] at hx;simp only [hpre _ hx.1,hx.2,Bool.and_self]
   have hp2:=(hp.append_right m).trans (zTw _ _ _);have hr2:=hr.perm hp2;refine wpOp_of ho (zBc hfF hwant (.inr hbad)) (zFr (hr2.sub (List.sublist_append_left _ _)) hfF hg hm zDL (zDM hbad) (fun h h1 h2=>by omega) (zFP.symm.trans hx) K Q fun cv E' w' h1 h2 h3=>?_)
   obtain ⟨f1,f2⟩:=Tr.frame hr2 h1 h2;have f3:=f2.perm hp2.symm hp2.symm;exact same (v:=v') (by rw [hst]) h3 (by rw [hst]) (by rw [hst]) (by rw [hst]) (f1.perm hp2.symm) ⟨Nat.le_refl _,f3.agree,fun h=>(f3.dom h).trans ⟨Or.imp id fun ⟨a,b⟩=>by omega,Or.imp id fun ⟨a,b⟩=>by omega⟩,f3.zmono,f3.znew,f3.own,f3.tape,f3.os,f3.output,f3.size,f3.old,f3.shapes,f3.sig⟩
  ·cases hat
 | alloc v ob hwant hx=>
  have hbad:(zm P ops o).op≠.bad:=fun e=>by rw [e] at hx;simp [xo,zMd] at hx
  have hr':HR E ([]++(within (fun j=>L j&&!inc.testBit j) (st ops.size).al++m)) w:=hr
  rw [hst] at hfE;refine wpOp_of ho (zBc hfF hwant (.inr hbad)) (zFr (hr.sub (List.nil_sublist _)) hfF hg hm zDL (zDM hbad) hfE (zFP.symm.trans hx) K Q fun cv E' w' h1 h2 h3=>?_)
  obtain ⟨f1,f2⟩:=Tr.frame hr' h1 h2;have e1:cur L' (st ops.size).ch (st ops.size).ms=some (m,inc):=by
   rw [←hcur];refine zKl fun c hcm=>?_
   have:=zTv hc R hi (by rw [hst]) c hcm
   rw [hL'];simp [this]
  have e2:(within (fun j=>L' j&&!inc.testBit j) (st ops.size).al).Perm ((((st i).nx,ob))::within (fun j=>L j&&!inc.testBit j) (st ops.size).al):=by
   rw [ew1,hst];simp only [zDw];have g1:within (fun j=>L' j&&!inc.testBit j) nw=within (fun j=>L j&&!inc.testBit j) nw:=zCa fun x hx=>by
    have:x.1≠i:=by have:=ew2 x hx;omega
    have e:L' x.1=L x.1:=by rw [hL'];simp [this]
    simp only [e]
   have g2:within (fun j=>L' j&&!inc.testBit j) (st i).al=within (fun j=>L j&&!inc.testBit j) (st i).al:=zCa fun x hx=>by
    have:x.1≠i:=by have:=low.al x hx;omega
    have e:L' x.1=L x.1:=by rw [hL'];simp [this]
    simp only [e]
   have g3:inc.testBit i=false:=by
    cases h:inc.testBit i with
    | false=>rfl
    | true=>rw [hinc i h] at hL;cases hL
   have g4:L' i=true:=hmem.2 (.inr rfl);simp only [within,g1,g2,g3,g4,hL,Bool.not_false,Bool.and_true];exact List.perm_middle
  have e3:=e2.append_right m;refine close (v:=v) (by rw [hst]) h3 e1 (fun j hj=>hmem.2 (.inl (hinc j hj))) (f1.perm e3.symm) ?_
  rw [hst];exact f2.perm (.refl _) e3.symm
 | chain v m0 inc0 ms m' n hwant hms hch hx=>
  have hbad:(zm P ops o).op≠.bad:=fun e=>by rw [e] at hx;simp [xo,zMd] at hx
  have hnot:∀c∈nc,L c.1=false:=fun c hcm=>by
   cases h:L c.1 with
   | false=>rfl
   | true=>
    obtain ⟨dc,h1,h2⟩:=R.chains ops.size (Nat.le_refl _) c (ec1▸List.mem_append_left _ hcm)
    have h3:=(ec4 c hcm).2 (i,d.preds) (by rw [hst];exact .head _)
    have h4:=hcl _ _ h h1 i (h2▸h3)
    rw [hL] at h4;cases h4
  have hold:∀c∈(st i).ch,L c.1=true:=fun c hcm=>hpre _ (hch c hcm)
  have ecur:some (m,inc)=some (m0,inc0):=by
   rw [←hcur,ec1,ec2,zJn ec3 hnot,hst];simp only [cur,hL];rw [hms];exact zOu hold
  cases ecur;have e1:cur L' (st ops.size).ch (st ops.size).ms=some (m',inc ||| zAy d.preds (st i).al):=by
   rw [ec1,ec2,zJn ec3 fun c hcm=>?_,hst]
   ·have g4:L' i=true:=hmem.2 (.inr rfl);simp only [cur,g4]
   ·have h1:=(ec4 c hcm).1;have:c.1≠i:=by omega
    rw [hL',hnot c hcm];simp [this]
  have hp:=zHo (f:=fun j=>L j&&!inc.testBit j) (g:=but d.preds inc) (al:=(st ops.size).al) fun x _ hx=>by
   simp only [but,Bool.and_eq_true] at hx;simp only [hpre _ hx.1,hx.2,Bool.and_self]
  have ein:within (but d.preds inc) (st ops.size).al=within (but d.preds inc) (st i).al:=by
   rw [ew1,hst,zDw,zCL,List.nil_append];intro x hx;have h1:=ew2 x hx;cases h:but d.preds inc x.1 with
   | false=>rfl
   | true=>
    simp only [but,Bool.and_eq_true] at h;have:=R.low i d _ hd h.1;omega
  have hp2:=(hp.append_right m).trans (zTw _ _ _);rw [ein] at hp2;have hr2:=hr.perm hp2;rw [hst] at hfE;refine wpOp_of ho (zBc hfF hwant (.inr hbad)) (zFr (hr2.sub (List.sublist_append_left _ _)) hfF hg hm hcall (zDM hbad) hfE (zFP.symm.trans hx) K Q fun cv E' w' h1 h2 h3=>?_)
  obtain ⟨f1,f2⟩:=Tr.frame hr2 h1 h2;have e2:within (fun j=>L' j&&!(inc ||| zAy d.preds (st i).al).testBit j) (st ops.size).al=within (fun j=>(L j&&!inc.testBit j)&&!but d.preds inc j) (st ops.size).al:=by
   refine zCa fun x hx=>?_
   have hne:x.1≠i:=zTu hc R hi (by rw [hst]) x hx
   have hmk:(zAy d.preds (st i).al).testBit x.1=d.preds.testBit x.1:=by
    rw [Bool.eq_iff_iff,zFS];refine ⟨And.left,fun h=>⟨h,?_⟩⟩
    rw [ew1,hst] at hx;rcases List.mem_append.1 hx with hx | hx
    ·have:=ew2 x hx;have:=R.low i d _ hd h;omega
    ·exact ⟨x,hx,rfl⟩
   have:(x.1==i)=false:=by simp [hne]
   simp only [hL',this,Bool.or_false,Nat.testBit_or,hmk,but];cases L x.1 <;> cases inc.testBit x.1 <;> cases d.preds.testBit x.1 <;> rfl
  have e3:(m'++within (fun j=>(L j&&!inc.testBit j)&&!but d.preds inc j) (st ops.size).al).Perm (within (fun j=>L' j&&!(inc ||| zAy d.preds (st i).al).testBit j) (st ops.size).al++m'):=by
   rw [e2];exact List.perm_append_comm
  refine close (v:=v) (by rw [hst]) h3 e1 (fun j hj=>?_) (f1.perm e3) ?_
  ·rw [Nat.testBit_or,Bool.or_eq_true,zFS] at hj;rcases hj with hj | hj
   ·exact hmem.2 (.inl (hinc j hj))
   ·exact hmem.2 (.inl (hpre j hj.1))
  ·rw [hst];exact f2.perm hp2.symm e3
end DRun
end Go.Sy
namespace Go.Sy
def zOv (r:Nat->Option Nat) (o:Oper) (m:Nat):Prop:=
 ∀k,m.testBit k=true->∃e∈o.after,Region.binds .any e=true/\(k=e.on\/∃m',r e.on=some m'/\m'.testBit k=true)
theorem zMt (acc:Array Nat):∀(es:List Edge) (s k:Nat),(es.foldl (fun s e=>if Region.binds .any e then s ||| 2 ^ e.on ||| acc.getD e.on 0 else s) s).testBit k=true →
  s.testBit k=true\/∃e∈es,Region.binds .any e=true/\(k=e.on\/∃m',acc[e.on]? = some m'/\m'.testBit k=true)
 | [],s,k,h=>.inl h
 | e::es,s,k,h=>by
  rcases zMt acc es _ k h with h | ⟨e',h1,h2⟩
  ·simp only at h;split at h
   ·rename_i hb;rw [Nat.testBit_or,Nat.testBit_or,Bool.or_eq_true,Bool.or_eq_true] at h;rcases h with (h | h) | h
    ·exact .inl h
    ·rw [Nat.testBit_two_pow] at h;exact .inr ⟨e,.head _,hb,.inl (by have:=of_decide_eq_true h;exact this.symm)⟩
    ·refine .inr ⟨e,.head _,hb,.inr ?_⟩
     rw [Array.getD_eq_getD_getElem?] at h;cases hm:acc[e.on]? with
     | none=>rw [hm] at h;simp at h
     | some m'=>rw [hm] at h;exact ⟨m',rfl,h⟩
   ·exact .inl h
  ·exact .inr ⟨e',.tail _ h1,h2⟩
theorem zNq:∀(os:List Oper) (acc:Array Nat),let r:=os.foldl (fun acc o=>acc.push (o.after.foldl (fun s e=>if Region.binds .any e then s ||| 2 ^ e.on ||| acc.getD e.on 0 else s) 0)) acc
  (∀(j m:Nat),acc[j]? = some m->r[j]? = some m)/\r.size=acc.size+os.length/\∀(j:Nat) (o:Oper),os[j]? = some o->∃m,r[acc.size+j]? = some m/\zOv (fun j=>r[j]?) o m
 | [],acc=>⟨fun _ _ h=>h,rfl,fun j o h=>by simp at h⟩
 | o::os,acc=>by
  intro r;obtain ⟨h1,h2,h3⟩:=zNq os (acc.push (o.after.foldl (fun s e=>if Region.binds .any e then s ||| 2 ^ e.on ||| acc.getD e.on 0 else s) 0))
  have up:∀(j m:Nat),acc[j]? = some m->r[j]? = some m:=fun j m h=>h1 j m (by
   have:=(Array.getElem?_eq_some_iff.1 h).1;rw [Array.getElem?_push_lt this];rw [Array.getElem?_eq_getElem this] at h;exact h)
  have h2':r.size=acc.size+1+os.length:=by rw [Array.size_push] at h2;exact h2
  refine ⟨up,by rw [h2',List.length_cons];omega,fun j o' ho=>?_⟩
  cases j with
  | zero=>
   simp at ho;subst ho;refine ⟨_,h1 acc.size _ Array.getElem?_push_size,fun k hk=>?_⟩
   rw [←Array.foldl_toList] at hk;rcases zMt acc _ 0 k hk with h | ⟨e,he,hb,h⟩
   ·simp at h
   ·exact ⟨e,by simpa using he,hb,h.imp id fun ⟨m',a,b⟩=>⟨m',up _ _ a,b⟩⟩
  | succ j=>
   obtain ⟨m,a,b⟩:=h3 j o' (by simpa using ho)
   refine ⟨m,?_,b⟩
   rw [←a];congr 1;simp;omega
theorem zLv {ops:Array Oper}:(Region.before ops).size=ops.size/\∀(j:Nat) (o:Oper),ops[j]? = some o->∃m,(Region.before ops)[j]? = some m/\zOv (fun j=>(Region.before ops)[j]?) o m:=by
 have h:=zNq ops.toList #[];have e:Region.before ops=ops.toList.foldl (fun acc o=>acc.push (o.after.foldl (fun s e=>if Region.binds .any e then s ||| 2 ^ e.on ||| acc.getD e.on 0 else s) 0)) #[]:=by
  rw [Array.foldl_toList];rfl
 rw [e];refine ⟨by simpa using h.2.1,fun j o ho=>?_⟩
 obtain ⟨m,a,b⟩:=h.2.2 j o (by simpa using ho)
 exact ⟨m,by simpa using a,b⟩
theorem zKm {ops:Array Oper} {P:Program}:∀{os:List Oper} {ms:List Nat} {i:Nat} {d:XD},(zipD ops P os ms)[i]? = some d->∃m,ms[i]? = some m/\d.preds=m
 | o::r,m::ms,0,d,h=>by simp [zipD] at h;exact ⟨m,rfl,by rw [←h]⟩
 | o::r,m::ms,i+1,d,h=>by
  simp only [zipD,List.getElem?_cons_succ] at h;obtain ⟨m',a,b⟩:=zKm h;exact ⟨m',by simpa using a,b⟩
 | [],ms,i,d,h=>by simp [zipD] at h
 | _::_,[],i,d,h=>by simp [zipD] at h
theorem zJo:∀{os:List Oper} {i:Nat},zK2 i os=true->∀(j:Nat) (o:Oper),os[j]? = some o->∀e∈o.after,Region.binds .any e=true->e.on<i+j
 | o::r,i,h,0,o',ho,e,he,hb=>by
  simp at ho;subst ho;simp only [zK2,Bool.and_eq_true,List.all_eq_true] at h;have:=h.1 e (by simpa using he)
  simp only [hb,Bool.not_true,Bool.false_or] at this;rw [Nat.blt_eq] at this;exact this
 | o::r,i,h,j+1,o',ho,e,he,hb=>by
  simp only [zK2,Bool.and_eq_true] at h;have:=zJo h.2 j o' (by simpa using ho) e he hb
  omega
 | [],i,h,j,o',ho,e,he,hb=>by simp at ho
theorem zHp:∀{xs:List XOper} {ds:List XD} {i:Nat} {es:List (Nat×Option Nat×XD)},zIP i es xs ds=true->∀(k:Nat) (y:XOper) (dy:XD),xs[k]? = some y->ds[k]? = some dy →
  (∀e∈es,dy.preds.testBit e.1=true\/zFQ e.2.1 e.2.2 y.dst dy=true)/\∀(j:Nat) (x:XOper) (dx:XD),j<k->xs[j]? = some x->ds[j]? = some dx->dy.preds.testBit (i+j)=true\/zFQ x.dst dx y.dst dy=true
 | [],_,_,_,_,k,y,dy,h,_=>by simp at h
 | _::_,[],_,_,h,_,_,_,_,_=>by simp [zIP] at h
 | x0::xs,d0::ds,i,es,h,k,y,dy,hy,hd=>by
  simp only [zIP,Bool.and_eq_true,List.all_eq_true,Bool.or_eq_true] at h;cases k with
  | zero=>
   simp at hy hd;subst hy;subst hd;exact ⟨h.1,fun j x dx hj=>by omega⟩
  | succ k=>
   obtain ⟨h1,h2⟩:=zHp h.2 k y dy (by simpa using hy) (by simpa using hd)
   refine ⟨fun e he=>h1 e (.tail _ he),fun j x dx hj hx hdx=>?_⟩
   cases j with
   | zero=>
    simp at hx hdx;subst hx;subst hdx;exact h1 _ (.head _)
   | succ j=>
    have:=h2 j x dx (by omega) (by simpa using hx) (by simpa using hdx)
    rwa [show i+(j+1)=i+1+j by omega]
namespace DRun
variable {dl:List Deferred} {P:Program} {G:Cx} {call:Call} {ops:Array Oper} {ds:List XD} {st:Nat->DS} {H0:Heap} {fr0:Fr} {nx0 nt:Nat}
def Ahead (ops:Array Oper) (ds:List XD):Prop:=
 ∀(j:Nat) (o:Oper) (d:XD),ops[j]? = some o->ds[j]? = some d->∀k,d.preds.testBit k=true->∃e∈o.after,Region.binds .any e=true/\(k=e.on\/∃d',ds[e.on]? = some d'/\d'.preds.testBit k=true)
def Down (ops:Array Oper):Prop:=∀(j:Nat) (o:Oper),ops[j]? = some o->∀e∈o.after,Region.binds .any e=true->e.on<j
theorem any_order (hcall:zD3 P G call) (hm:zAi P G) (R:DRun P G call ops ds st H0 fr0 nx0 nt) {E0:Env} {w0:World} (hr0:HR E0 H0 w0) (hg0:GR G E0 w0) (hfr:Fresh E0 nx0 (st ops.size).nx)
  (ha:Ahead ops ds) (hdn:Down ops) {Q:Exit->Act->World->Prop} (hQ:∀L E w a,(∀j,j<ops.size->L j=true)->Inv dl st ops.size E0 H0 w0 fr0 nt L E w a->Q .normal a w):
  ∀(fuel:Nat) (listed:Array Bool) (E:Env) (a:Act) (w:World),listed.size=ops.size->listed.toList.count false<=fuel →
   (∀(k:Nat) (dk:XD),listed.getD k false=true->ds[k]? = some dk->∀j,dk.preds.testBit j=true->listed.getD j false=true) →
   Inv dl st ops.size E0 H0 w0 fr0 nt (fun j=>listed.getD j false) E w a->wpAny P .any ops Q fuel listed a w:=by
 have done:∀(listed:Array Bool),listed.size=ops.size->Region.ready .any ops listed=[]->∀j,j<ops.size->listed.getD j false=true:=by
  intro listed hsz hr j
  induction j using Nat.strongRecOn with
  | _ j ih=>
   intro hj;cases hl:listed.getD j false with
   | true=>rfl
   | false=>
    have hj':j<listed.size:=hsz▸hj
    have:j∈Region.ready .any ops listed:=by
     rw [mem_ready];refine ⟨?_,ops[j],Array.getElem?_eq_getElem hj,fun e he hb=>?_⟩
     ·simpa [hj'] using hl
     ·have:=hdn j _ (Array.getElem?_eq_getElem hj) e he hb;exact ih e.on this (by omega)
    rw [hr] at this;cases this
 intro fuel
 induction fuel with
 | zero=>
  intro listed E a w hsz hc hcl inv;have hall:∀j,j<ops.size->listed.getD j false=true:=by
   intro j hj;have hj':j<listed.size:=hsz▸hj
   cases hl:listed.getD j false with
   | true=>rfl
   | false=>
    have:false∈listed.toList:=by
     have h2:listed[j]=false:=by simpa [hj'] using hl
     rw [←h2];simp
    have:=List.count_pos_iff.2 this;omega
  refine ⟨?_,hQ _ E w a hall inv⟩
  cases hr:Region.ready .any ops listed with
  | nil=>rfl
  | cons x r=>
   have hx:x∈Region.ready .any ops listed:=by rw [hr];exact .head _
   obtain ⟨h1,o,ho,_⟩:=mem_ready.1 hx;have hlt:=(Array.getElem?_eq_some_iff.1 ho).1;have h2:=hall x hlt;have hj':x<listed.size:=hsz▸hlt
   simp [hj'] at h1 h2;rw [h2] at h1;cases h1
 | succ fuel ih=>
  intro listed E a w hsz hc hcl inv;refine ⟨fun hr=>hQ _ E w a (done listed hsz hr) inv,fun i hi=>?_⟩
  obtain ⟨h1,o,ho,h2⟩:=mem_ready.1 hi;have hlt:=(Array.getElem?_eq_some_iff.1 ho).1;have hlt':i<listed.size:=hsz▸hlt
  have hL:listed.getD i false=false:=by simpa [hlt'] using h1
  have hL':∀j,(listed.setIfInBounds i true).getD j false=(listed.getD j false||j==i):=by
   intro j;by_cases hj:i=j
   ·subst hj;simp [hlt']
   ·rw [getD_set_ne false hj];have:(j==i)=false:=by simp;exact fun h=>hj h.symm
    simp [this]
  have hpre:∀(d:XD),ds[i]? = some d->∀j,d.preds.testBit j=true->listed.getD j false=true:=by
   intro d hd j hj;obtain ⟨e,he,hb,h | ⟨d',h3,h4⟩⟩:=ha i o d ho hd j hj
   ·rw [h];exact h2 e he hb
   ·exact hcl e.on d' (h2 e he hb) h3 j h4
  refine exec hcall hm R hr0 hg0 hfr ho hL hL' hcl hpre inv fun E' a' w' inv'=>ih _ E' a' w' (by simpa using hsz) ?_ ?_ inv'
  ·have h3:listed.toList[i]? = some false:=by
    have:listed[i]=false:=by simpa [hlt'] using hL
    simp [hlt',this]
   have h4:(listed.setIfInBounds i true).toList=listed.toList.set i true:=by simp
   rw [h4,List.count_set (by simpa using hlt')]
   have h5:listed.toList[i]'(by simpa using hlt')=false:=by simpa [hlt'] using hL
   have h6:0<listed.toList.count false:=List.count_pos_iff.2 (by rw [←h5];exact List.getElem_mem _)
   simp only [h5];simp;simp at h6 hc;omega
  ·intro k dk hk hdk j hj;rw [hL'] at hk ⊢;rw [Bool.or_eq_true,beq_iff_eq] at hk;rcases hk with hk | hk
   ·rw [hcl k dk hk hdk j hj];rfl
   ·subst hk;rw [hpre dk hdk j hj];rfl
end DRun
theorem zQs {P:Program} {G:Cx} {call:Call} {id:Nat} {ops:Array Oper} {xs:List XOper} {ds:List XD} {nt:Nat} {fr fr':Fr} {H H':Heap} {nx nx':Nat} (hcall:zD3 P G call) (hm:zAi P G) (hmix:P.follows .mixedOrders=true)
  (hc:zv P (.region id ops true)=some (.draw xs ds)) (hdst:zCS nt (.draw xs ds)=true) (h:zK0 G call xs ds (fr,H,nx)=some (fr',H',nx')):
  nx<=nx'/\∀(E:Env) (w:World) (a:Act) (Q:Exit->Act->World->Prop) (dl:List Deferred),HR E H w->FrR E w fr a nt->GR G E w->Fresh E nx nx'->a.defers=dl →
   (∀E' w' a',HR E' H' w'->Tr E H w E' H' w' nx nx'->FrR E' w' fr' a' nt->a'.defers=dl->Q .normal a' w')->(Code.region id ops true).wp P Q a w:=by
 simp only [zv] at hc;split at hc
 ·rename_i hdn;split at hc
  ·rename_i hp;simp only [Option.some.injEq,XC.draw.injEq] at hc;obtain ⟨rfl,rfl⟩:=hc;unfold zK0 at h;split at h
   ·rename_i s hs;split at h
    ·rename_i hrd;split at h
     ·rename_i m inc ms hms;simp only [Option.some.injEq,Prod.mk.injEq] at h;obtain ⟨rfl,rfl,rfl⟩:=h;obtain ⟨st,e0,e1,e2⟩:=zIS hs;have hlen:(ops.toList.map (zm P ops)).length=ops.size:=by simp
      rw [hlen] at e1;obtain ⟨b1,b2⟩:=zLv (ops:=ops);have hds:∀{j:Nat} {d:XD},(zipD ops P ops.toList (Region.before ops).toList)[j]? = some d->(Region.before ops)[j]? = some d.preds:=fun h=>by
       obtain ⟨m,a,b⟩:=zKm h;rw [b];simpa using a
      have zlen:∀(os:List Oper) (ms:List Nat),os.length=ms.length->(zipD ops P os ms).length=os.length:=by
       intro os
       induction os with
       | nil=>intro ms _;simp [zipD]
       | cons o os ih=>intro ms hms;cases ms with
        | nil=>simp at hms
        | cons m ms=>simp [zipD,ih ms (by simpa using hms)]
      have hahead:DRun.Ahead ops (zipD ops P ops.toList (Region.before ops).toList):=by
       intro j o d ho hd k hk;obtain ⟨m,c1,c2⟩:=b2 j o ho;have:=hds hd;rw [c1] at this;cases this;obtain ⟨e,he,hb,h | ⟨m',h3,h4⟩⟩:=c2 k hk
       ·exact ⟨e,he,hb,.inl h⟩
       ·refine ⟨e,he,hb,.inr ?_⟩
        have hl:e.on<(zipD ops P ops.toList (Region.before ops).toList).length:=by
         rw [zlen _ _ (by simp [b1])]
         have:=(Array.getElem?_eq_some_iff.1 h3).1
         simpa [b1] using this
        refine ⟨_,List.getElem?_eq_getElem hl,?_⟩
        have h5:=hds (List.getElem?_eq_getElem hl);have h3':(Region.before ops)[e.on]? = some m':=h3;rw [h3'] at h5;rw [←Option.some.inj h5];exact h4
      have hdown:DRun.Down ops:=fun j o ho e he hb=>by
       have:=zJo hdn j o (by simpa using ho) e he hb
       omega
      have hlow:∀(j:Nat) (d:XD) (k:Nat),(zipD ops P ops.toList (Region.before ops).toList)[j]? = some d->d.preds.testBit k=true->k<j:=by
       intro j
       induction j using Nat.strongRecOn with
       | _ j ih=>
        intro d k hd hk;have hj:j<ops.size:=by
         have:=(Array.getElem?_eq_some_iff.1 (hds hd)).1;omega
        obtain ⟨e,he,hb,h | ⟨d',h3,h4⟩⟩:=hahead j _ d (Array.getElem?_eq_getElem hj) hd k hk
        ·rw [h];exact hdown j _ (Array.getElem?_eq_getElem hj) e he hb
        ·have h5:=hdown j _ (Array.getElem?_eq_getElem hj) e he hb;have:=ih e.on h5 d' k h3 h4;omega
      have hget:∀{j:Nat} {o:Oper},ops[j]? = some o->(ops.toList.map (zm P ops))[j]? = some (zm P ops o):=fun h=>by simp [h]
      have R:DRun P G call ops (zipD ops P ops.toList (Region.before ops).toList) st H fr nx nt:=by
       refine ⟨fun j o ho=>?_,e0,fun j k oj ok dj dk hjk hj hk hdj hdk=>?_,hlow,fun j o d ho hd=>?_,fun r hr=>?_⟩
       ·obtain ⟨d,h1,h2⟩:=e2 j _ (hget ho);exact ⟨d,h1,by simpa using h2⟩
       ·have:=(zHp hp k _ dk (hget hk) hdk).2 j _ dj hjk (hget hj) hdj
        simpa [zAH] using this
       ·have h1:=List.all_eq_true.1 hdst _ (List.mem_of_getElem? (hget ho));rw [zAH,hd] at h1
        simpa [Nat.blt_eq] using h1
       ·rw [e1] at hr ⊢;exact List.all_eq_true.1 hrd r hr
      have hle:nx<=s.nx:=by
       have:=R.mono hcall.le (Nat.zero_le ops.size) (Nat.le_refl _);rw [e0,e1] at this;exact this
      refine ⟨hle,fun E w a Q dl hr hf hg hfr hdf hQ=>?_⟩
      refine wp_region_any hmix ?_
      obtain ⟨d1,d2⟩:=zFx (w':={ w with drawn:=w.drawn+1 }) hr ⟨rfl,rfl,rfl,rfl⟩ nx
      refine DRun.any_order (dl:=dl) (E0:=E) (w0:={ w with drawn:=w.drawn+1 }) hcall hm R d1 (fun g v hv=>⟨d2.vr hr (hg g v hv).1,(hg g v hv).2.mono d2.shapes⟩) (by rw [e1];exact hfr) hahead hdown (fun L E' w' a' hL inv=>?_) ops.size _ E a _ (by simp) ?_ ?_ ?_
      ·obtain ⟨m',inc',i1,i2,i3,i4⟩:=inv.heap;rw [e1] at i1 i3 i4;have low:=R.lows ops.size (Nat.le_refl _);rw [e1] at low;have i5:some (m',inc')=some (m,inc):=by
        rw [←i1,hms];exact zOu fun c hc=>hL _ (low.ch c hc)
       cases i5;have e3:within (fun j=>L j&&!inc.testBit j) s.al=within (fun j=>!inc.testBit j) s.al:=zCa fun x hx=>by
        simp only [hL _ (low.al x hx),Bool.true_and]
       rw [e3] at i3 i4;have e4:Tr E H { w with drawn:=w.drawn+1 } E' (within (fun j=>!inc.testBit j) s.al++m) w' nx s.nx:=by
        refine i4.to_tr hle fun h=>?_
        constructor
        ·rintro ⟨j,hj,_,h1,h2⟩
         have g1:=R.mono hcall.le (Nat.zero_le j) (Nat.le_of_lt hj);have g2:=R.mono hcall.le (i:=j+1) hj (Nat.le_refl _);rw [e0] at g1;rw [e1] at g2;exact ⟨Nat.le_trans g1 h1,Nat.lt_of_lt_of_le h2 g2⟩
        ·rintro ⟨h1,h2⟩
         have find:∀n,n<=ops.size->h<(st n).nx->∃j,j<n/\(st j).nx<=h/\h<(st (j+1)).nx:=by
          intro n
          induction n with
          | zero=>intro _ hh;rw [e0] at hh;exact absurd hh (by simpa using h1)
          | succ n ih=>
           intro hn hh;by_cases hx:h<(st n).nx
           ·obtain ⟨j,a,b⟩:=ih (by omega) hx
            exact ⟨j,by omega,b⟩
           ·exact ⟨n,by omega,by omega,hh⟩
         obtain ⟨j,a,b⟩:=find ops.size (Nat.le_refl _) (by rw [e1];exact h2)
         exact ⟨j,a,hL j a,b⟩
       refine hQ E' w' a' i3 (d2.trans d1 e4) ⟨inv.size,fun t v ht=>inv.fr t v ?_⟩ inv.defers
       rw [←ht,←e1,←R.frames t ops.size (Nat.le_refl _)];refine zGU fun x hx _=>?_
       have low:=R.lows ops.size (Nat.le_refl _);exact hL _ (low.tr x hx)
      ·simp
      ·intro k dk hk;rw [Array.getD_eq_getD_getElem?,Array.getElem?_replicate] at hk;split at hk <;> simp at hk
      ·have hF:∀j,(Array.replicate ops.size false).getD j false=false:=fun j=>by
        rw [Array.getD_eq_getD_getElem?,Array.getElem?_replicate];split <;> rfl
       refine ⟨hf.size,hdf,fun t v ht=>?_,H,0,?_,fun j hj=>by simp at hj,?_,?_⟩
       ·have:scan (fun j=>(Array.replicate ops.size false).getD j false) fr t (st ops.size).tr=fr.get t:=by
         have:=zH3 (L:=fun j=>(Array.replicate ops.size false).getD j false) (fr0:=fr) (t:=t) (r:=[]) (nw:=(st ops.size).tr) fun x _ hx=>by rw [hF] at hx;cases hx
         simpa [scan] using this
        rw [this] at ht;exact d2.vr hr (hf.get t v ht)
       ·obtain ⟨nc,nm,k1,k2,k3,_⟩:=(R.last hcall.le (i:=0) (Nat.zero_le _)).ch;rw [k1,k2,zJn k3 fun c _=>hF _,e0]
        rfl
       ·have:within (fun j=>(Array.replicate ops.size false).getD j false&&!Nat.testBit 0 j) (st ops.size).al=[]:=zCL fun x _=>by rw [hF];rfl
        rw [this];exact d1
       ·have:within (fun j=>(Array.replicate ops.size false).getD j false&&!Nat.testBit 0 j) (st ops.size).al=[]:=zCL fun x _=>by rw [hF];rfl
        rw [this];exact TrS.of_tr (.refl nx) fun h=>⟨fun ⟨j,_,hj,_⟩=>by rw [hF] at hj;(cases hj),fun ⟨a,b⟩=>by omega⟩
     ·cases h
    ·cases h
   ·cases h
  ·cases hc
 ·cases hc
end Go.Sy
namespace Go.Sy
def zOw:Ext->Exit
 | .normal=>.normal
 | .exit i=>.exit i
 | .ret=>.ret
section
variable {P:Program} {G:Cx} {call:Call} {nt:Nat}
theorem FrR.put {E E':Env} {w w':World} {fr:Fr} {a:Act} {d:Option Nat} {v:AV} {cv:Value} (hf:FrR E w fr a nt) (hm:∀{v cv},VR E w v cv->VR E' w' v cv) (hd:∀n,d=some n->n<nt) (hv:VR E' w' v cv):FrR E' w' (putd fr d v) (a.put d cv) nt:=by
 cases d with
 | none=>exact ⟨hf.size,fun t u h=>hm (hf.get t u h)⟩
 | some n=>
  refine ⟨by rw [DRun.put_size];exact hf.size,fun t u h=>?_⟩
  simp only [putd,Fr.get_put] at h;have hn:n<a.tmps.size:=by rw [hf.size];exact hd n rfl
  split at h
  ·rename_i e;subst e;cases h
   simpa [Act.put,hn] using hv
  ·rename_i e;have:(a.put (some n) cv).tmps.getD t undef=a.tmps.getD t undef:=by simp [Act.put,Array.getElem?_setIfInBounds_ne e]
   rw [this];exact hm (hf.get t u h)
theorem GR.step {E E':Env} {H H':Heap} {w w':World} {a b:Nat} (hr:HR E H w) (hg:GR G E w) (t:Tr E H w E' H' w' a b):GR G E' w':=fun g v h=>⟨t.vr hr (hg g v h).1,(hg g v h).2.mono t.shapes⟩
end
end Go.Sy
namespace Go.Sy
section
variable {P:Program} {G:Cx} {E:Env} {w:World} {H:Heap} {nx:Nat}
theorem zJX (sz:Nat):∀(n:Nat) (cs:List AV),(chunks sz n cs).length=n
 | 0,_=>rfl
 | n+1,cs=>by simp only [chunks,List.length_cons,zJX sz n]
theorem zMu {fr:Fr} {a:Act} {nt:Nat} (hr:HR E H w) (hf:FrR E w fr a nt):∀{rs:List ResultVar} {xs:List XR} {vs:List AV},zGf P rs=some xs->ress H fr xs=some vs →
  ∃cvs:List Value,(rs.mapM (m:=Sem) fun | .tmp t=>pure (a.tmps.getD t undef) | .cell x t=>do loadVar t (←asAddr (a.tmps.getD x undef))).run P w=.ok cvs w/\VRs E w vs cvs
 | [],xs,vs,hc,h=>by
  simp only [zGf,Option.some.injEq] at hc;subst hc;simp only [ress,Option.some.injEq] at h;subst h;exact ⟨[],by simp,VRs.nil⟩
 | r::rs,xs,vs,hc,h=>by
  simp only [zGf] at hc;split at hc
  ·rename_i x xs' hx hxs;cases hc;simp only [ress] at h;split at h
   ·rename_i v hv;split at h
    ·rename_i vs' hvs;cases h;obtain ⟨cvs,k1,k2⟩:=zMu hr hf hxs hvs;cases r with
     | tmp t=>
      simp only [zMZ,Option.some.injEq] at hx;subst hx;exact ⟨_::cvs,by simp only [List.mapM_cons,Sem.run_bind,Sem.run_pure,Result.andThen_ok,k1],VRs.cons (hf.get t v hv) k2⟩
     | cell b t=>
      simp only [zMZ] at hx;obtain ⟨sz,hsz,hx⟩:=za hx;obtain ⟨ag,hag,hx⟩:=za hx;cases hx;simp only [zN2] at hv;split at hv
      ·rename_i ab hab;obtain ⟨ad,cv,e1,e2,e3⟩:=zMj (P:=P) hr (hf.get b ab hab) hsz hag hv;have ea:(asAddr (.pointer (some ad))).run P w=.ok ad w:=by simp [asAddr]
       refine ⟨cv::cvs,?_,VRs.cons e3 k2⟩
       simp only [List.mapM_cons,Sem.run_bind,e1,ea,Sem.run_pure,Result.andThen_ok,e2,k1]
      ·cases hv
    ·cases h
   ·cases h
  ·cases hc
def zMv:List Value->Value
 | [v]=>v
 | vs=>.tuple vs.toArray
theorem zJY {fr:Fr} {a:Act} {nt:Nat} {fn:Func} {xs:List XR} {vs:List AV} (hr:HR E H w) (hf:FrR E w fr a nt) (hc:zGf P fn.results.toList=some xs) (h:ress H fr xs=some vs):
  ∃cv,(results fn a.tmps).run P w=.ok cv w/\VR E w (zBt vs) cv:=by
 obtain ⟨cvs,k1,k2⟩:=zMu hr hf hc h;unfold results;rw [Array.mapM_eq_mapM_toList];refine ⟨zMv cvs,?_,?_⟩
 ·rw [Sem.run_bind,Sem.run_map];refine (congrArg (fun r=>Result.andThen (Result.andThen r _) _) k1).trans ?_
  rw [Result.andThen_ok,Result.andThen_ok];cases cvs with
  | nil=>simp [zMv]
  | cons v r=>cases r with
   | nil=>simp [zMv]
   | cons u r=>simp [zMv]
 ·cases vs with
  | nil=>
   rw [k2.of_nil];exact VR.mk_tup (vs:=#[]) VRs.nil
  | cons v r=>
   obtain ⟨cv,cr,rfl,h1,h2⟩:=k2.of_cons;cases r with
   | nil=>rw [h2.of_nil];exact h1
   | cons u r=>
    obtain ⟨cu,cr',rfl,h3,h4⟩:=h2.of_cons;exact VR.mk_tup (vs:=(cv::cu::cr').toArray) (VRs.cons h1 (VRs.cons h3 h4))
theorem zKn:∀{n:Nat} {args:List AV} {t:Nat} {v:AV},(slots n args).get t=some v->∃i,t=n+i/\args[i]? = some v
 | n,[],t,v,h=>by simp [slots,Fr.get] at h
 | n,x::r,t,v,h=>by
  simp only [slots,Fr.get] at h;split at h
  ·rename_i e;cases h;exact ⟨0,by rw [←zb e];rfl,rfl⟩
  ·obtain ⟨i,e,h⟩:=zKn h;exact ⟨i+1,by omega,by simpa using h⟩
end
end Go.Sy
namespace Go.Sy
open Go.ChangeShapes
structure Kept (W W':World):Prop where
 kept:∀S:MemPlace->Prop,W.keptBut W' S
 frozen:∀a:Addr,a.block<W.heap.size->W'.frozen? a=W.frozen? a
 size:W.heap.size<=W'.heap.size
 heap:∀b,b<W.heap.size->W'.heap[b]? = W.heap[b]?
 below:RowKit.Below W.heap.size W W'
theorem Kept.of_tr {E E':Env} {H':Heap} {W W':World} {a b:Nat} (t:Tr E [] W E' H' W' a b):Kept W W':=by
 have h:∀b,b<W.heap.size->W'.heap[b]? = W.heap[b]?:=fun b hb=>t.old b hb fun p hp=>by simp at hp
 refine ⟨fun S=>⟨t.os,t.output,fun i hi=>?_⟩,fun a ha=>?_,t.size,h,⟨t.os,t.tape,t.output,t.size,h⟩⟩
 ·rw [h i hi];cases W.heap[i]? with
  | none=>rfl
  | some o=>cases o <;> simp
 ·simp only [World.frozen?,h a.block ha]
theorem zRq {H:Type} {enc:TypeId×Value->H} {P:Program} {f:Func} {s:ChangeSpec} {apart fresh handsOn again:Bool} {W W':World} {args:Array Value} {v:Value} {ds gs:List (DataW H)} {before pa pv:List MemPlace}
  (hW:DataW.Whole enc P f.params.toList s.vars apart W args.toList ds gs before)
  (hres:∀(b:Nat) (sp:Nat->Bool) (hd:Bool),DataW.TrodAll enc P W' b sp hd f.resultTypes.toList (v.resultList f.resultTypes.size) (s.fn H (ds++gs)).results [])
  (hargs:∀sp:Nat->Bool,(∀p∈before,sp p.block=true)->DataW.TrodAll enc P W' 0 sp true f.params.toList args.toList (s.fn H (ds++gs)).args pa)
  (hvars:∀sp:Nat->Bool,(∀p∈before,sp p.block=true)->DataW.TrodVars enc P W' sp s.vars (s.fn H (ds++gs)).vars pv)
  (hps:before=pa++pv) (hk:Kept W W')
  (hok:∀(j:Nat) (t:TypeId) (r:Value),f.resultTypes[j]? = some t->(v.resultList f.resultTypes.size)[j]? = some r->Value.okWide P W' .any 0 t r):
  s.post enc P f apart fresh handsOn again W args v W':=by
 have hold:∀p∈before,(fun b=>decide (b<W.heap.size)) p.block=true:=fun p hp=>by simpa using hW.lt p hp
 have hlt:=fun p hp=>hW.lt p hp
 refine ⟨ds,gs,before,[],pa,pv,hW,hres _ _ _,hargs _ hold,hvars _ hold,hk.kept _,fun _=>?_⟩
 obtain ⟨_,_,_,_,_,hz,hn⟩:=hW;refine ⟨hok,_,_,([]++pa)++pv,⟨[]++pa,pv,trodAll_append (hargs _ (fun _ _=>rfl)) (hres _ _ _),hvars _ (fun _ _=>rfl),rfl,?_,?_⟩,?_⟩
 ·intro b off hp;have hp':MemPlace.cell b off∈before:=by rw [hps];simpa using hp
  rw [hk.frozen _ (hlt _ hp')];exact hz b off hp'
 ·intro ha;have:=hn ha;rw [hps] at this
  simpa using this
 ·intro p hp _;rw [hps]
  simpa using hp
def Env.still (W:World) (σ:Nat->Value:=fun _=>.bool true):Env:=⟨id,fun _=>False,fun b=>b<W.heap.size,σ⟩
theorem HR.still (W:World) (σ:Nat->Value:=fun _=>.bool true):HR (Env.still W σ) [] W:=
 ⟨.nil,fun p hp=>by simp at hp,fun p hp=>by simp at hp,fun p hp=>by simp at hp,fun p hp=>by simp at hp,fun _ hb=>hb⟩
theorem zQt {P:Program} {G:Cx} {f:FuncId} {args:List AV} {cargs:Array Value} {n:Nat} {H':Heap} {W:World} {σ:Nat->Value} (ht:FnT P G f args [] 0 (.bool true) H' n) (hv:VRs (Env.still W σ) W args cargs.toList) (hg:GR G (Env.still W σ) W):
  Calls P f cargs W fun e W'=>e=.returned (.bool true)/\Kept W W':=by
 refine (ht (Env.still W σ) W cargs (.still W σ) hv hg fun _ _ _ h=>h).mono fun e W' h=>?_
 obtain ⟨cv,E',rfl,h1,h2,h3⟩:=h;rw [h3.of_bool];exact ⟨rfl,.of_tr h2⟩
end Go.Sy
namespace Go.Sy
set_option maxRecDepth 4000
inductive L8 where
 | mk (a b c d e f g h:AV)
noncomputable section
end
end Go.Sy
namespace Go.Sy
set_option maxRecDepth 8000
def zGy:Option XV->List XV
 | none=>[]
 | some x=>[x]
def XO.opnds:XO->List XV
 | .bad =>[]
 | .mov x=>[x]
 | .pick c a b=>[c]++[a]++[b]
 | .bin _ x y=>[x]++[y]
 | .beq _ x y=>[x]++[y]
 | .peq _ x y=>[x]++[y]
 | .aeq _ _ x y=>[x]++[y]
 | .ieq _ _ _ x y=>[x]++[y]
 | .seq _ x y=>[x]++[y]
 | .meq _ x y=>[x]++[y]
 | .feq _ x y=>[x]++[y]
 | .un _ x=>[x]
 | .conv _ x=>[x]
 | .s2b x=>[x]
 | .b2s x=>[x]
 | .s2s x=>[x]
 | .mark x=>[x]
 | .idxb x c=>[x]++[c]
 | .cntb x c=>[x]++[c]
 | .fld x _ _ _=>[x]
 | .ext x _=>[x]
 | .idxS x i=>[x]++[i]
 | .idxA x i _ _ _=>[x]++[i]
 | .box x _=>[x]
 | .alloc _=>[]
 | .build _ ps=>ps.map (·.2.2)
 | .bslice _ _ _ ps=>ps.map (·.2.2)
 | .load x _ _=>[x]
 | .store a x _=>[a]++[x]
 | .nilchk x=>[x]
 | .faddr x _=>[x]
 | .iaddrS x i _=>[x]++[i]
 | .iaddrA x i _ _=>[x]++[i]
 | .slcS x lo hi=>[x]++zGy lo++zGy hi
 | .slcL x lo hi mx _=>[x]++zGy lo++zGy hi++zGy mx
 | .slcA x lo hi _ _=>[x]++zGy lo++zGy hi
 | .lenS x=>[x]
 | .lenL x=>[x]
 | .lenM x=>[x]
 | .lenK _=>[]
 | .cap x=>[x]
 | .append x y _ _=>[x]++[y]
 | .copy x y _=>[x]++[y]
 | .clrL x _ _=>[x]
 | .clrM x=>[x]
 | .min x y=>[x]++[y]
 | .max x y=>[x]++[y]
 | .mkslice l c _ _ _=>[l]++[c]
 | .mkmap =>[]
 | .lookup _ _ m k _ _=>[m]++[k]
 | .mupd _ _ m k v=>[m]++[k]++[v]
 | .del _ _ m k=>[m]++[k]
 | .mkfunc _ first caps=>first++caps
 | .mkif _ x=>[x]
 | .tas x _ _ _=>[x]
 | .rngS x=>[x]
 | .nextS x=>[x]
 | .call _ args=>args
 | .callv f args=>[f]++args
 | .invoke r _ args=>[r]++args
theorem zB0 {G:Cx} {fr1 fr2:Fr}:∀{l:List XV},(∀x∈l,x.ev G fr1=x.ev G fr2)->evs G fr1 l=evs G fr2 l
 | [],_=>rfl
 | x::r,h=>by simp only [evs,h x (.head _),zB0 fun y hy=>h y (.tail _ hy)]
theorem zBi {G:Cx} {fr1 fr2:Fr} {x:Option XV} (h:∀y∈zGy x,y.ev G fr1=y.ev G fr2):evo G fr1 x=evo G fr2 x:=by
 cases x with
 | none=>rfl
 | some y=>simp only [evo,h y (.head _)]
theorem zGr {G:Cx} {fr1 fr2:Fr}:∀{ps:List (Nat×Nat×XV)} {cs:List AV},(∀x∈ps.map (·.2.2),x.ev G fr1=x.ev G fr2)->fillx G fr1 cs ps=fillx G fr2 cs ps
 | [],_,_=>rfl
 | (a,b,x)::r,cs,h=>by
  simp only [fillx,h x (.head _)];cases x.ev G fr2 with
  | none=>rfl
  | some v=>
   simp only;cases cellsOf v b with
   | none=>rfl
   | some new=>
    simp only;cases Nat.ble (a+b) cs.length with
    | false=>rfl
    | true=>exact zGr fun y hy=>h y (.tail _ hy)
theorem zOx {G:Cx} {call:Call} {fr1 fr2:Fr} {H:Heap} {nx:Nat} {o:XO} (h:∀x∈o.opnds,x.ev G fr1=x.ev G fr2):xo G call fr1 H nx o=xo G call fr2 H nx o:=by
 rw [zFP,zFP];cases o with
 | bad =>rfl
 | mov x=>
  have e0:=h x (by simp [XO.opnds])
  simp only [xoS,e0]
 | pick c a b=>
  have e0:=h c (by simp [XO.opnds])
  have e1:=h a (by simp [XO.opnds])
  have e2:=h b (by simp [XO.opnds])
  simp only [xoS,e0,e1,e2]
 | bin op x y=>
  have e0:=h x (by simp [XO.opnds])
  have e1:=h y (by simp [XO.opnds])
  simp only [xoS,e0,e1]
 | beq neg x y=>
  have e0:=h x (by simp [XO.opnds])
  have e1:=h y (by simp [XO.opnds])
  simp only [xoS,e0,e1]
 | peq neg x y=>
  have e0:=h x (by simp [XO.opnds])
  have e1:=h y (by simp [XO.opnds])
  simp only [xoS,e0,e1]
 | aeq neg ks x y=>
  have e0:=h x (by simp [XO.opnds])
  have e1:=h y (by simp [XO.opnds])
  simp only [xoS,e0,e1]
 | ieq neg lit kt x y=>
  have e0:=h x (by simp [XO.opnds])
  have e1:=h y (by simp [XO.opnds])
  simp only [xoS,e0,e1]
 | seq neg x y=>
  have e0:=h x (by simp [XO.opnds])
  have e1:=h y (by simp [XO.opnds])
  simp only [xoS,e0,e1]
 | meq neg x y=>
  have e0:=h x (by simp [XO.opnds])
  have e1:=h y (by simp [XO.opnds])
  simp only [xoS,e0,e1]
 | feq neg x y=>
  have e0:=h x (by simp [XO.opnds])
  have e1:=h y (by simp [XO.opnds])
  simp only [xoS,e0,e1]
 | un op x=>
  have e0:=h x (by simp [XO.opnds])
  simp only [xoS,e0]
 | conv ki x=>
  have e0:=h x (by simp [XO.opnds])
  simp only [xoS,e0]
 | s2b x=>
  have e0:=h x (by simp [XO.opnds])
  simp only [xoS,e0]
 | b2s x=>
  have e0:=h x (by simp [XO.opnds])
  simp only [xoS,e0]
 | s2s x=>
  have e0:=h x (by simp [XO.opnds])
  simp only [xoS,e0]
 | mark x=>
  have e0:=h x (by simp [XO.opnds])
  simp only [xoS,e0]
 | idxb x c=>
  have e0:=h x (by simp [XO.opnds])
  have e1:=h c (by simp [XO.opnds])
  simp only [xoS,e0,e1]
 | cntb x c=>
  have e0:=h x (by simp [XO.opnds])
  have e1:=h c (by simp [XO.opnds])
  simp only [xoS,e0,e1]
 | fld x off sz ag=>
  have e0:=h x (by simp [XO.opnds])
  simp only [xoS,e0]
 | ext x i=>
  have e0:=h x (by simp [XO.opnds])
  simp only [xoS,e0]
 | idxS x i=>
  have e0:=h x (by simp [XO.opnds])
  have e1:=h i (by simp [XO.opnds])
  simp only [xoS,e0,e1]
 | idxA x i len sz ag=>
  have e0:=h x (by simp [XO.opnds])
  have e1:=h i (by simp [XO.opnds])
  simp only [xoS,e0,e1]
 | box x sz=>
  have e0:=h x (by simp [XO.opnds])
  simp only [xoS,e0]
 | alloc z=>rfl
 | build z ps=>
  have e0:fillx G fr1 z ps=fillx G fr2 z ps:=zGr fun y hy=>h y (by simpa [XO.opnds] using hy)
  simp only [xoS,e0]
 | bslice len sz z ps=>
  have e0:fillx G fr1 z ps=fillx G fr2 z ps:=zGr fun y hy=>h y (by simpa [XO.opnds] using hy)
  simp only [xoS,e0]
 | load x sz ag=>
  have e0:=h x (by simp [XO.opnds])
  simp only [xoS,e0]
 | store a x sz=>
  have e0:=h a (by simp [XO.opnds])
  have e1:=h x (by simp [XO.opnds])
  simp only [xoS,e0,e1]
 | nilchk x=>
  have e0:=h x (by simp [XO.opnds])
  simp only [xoS,e0]
 | faddr x off=>
  have e0:=h x (by simp [XO.opnds])
  simp only [xoS,e0]
 | iaddrS x i sz=>
  have e0:=h x (by simp [XO.opnds])
  have e1:=h i (by simp [XO.opnds])
  simp only [xoS,e0,e1]
 | iaddrA x i len sz=>
  have e0:=h x (by simp [XO.opnds])
  have e1:=h i (by simp [XO.opnds])
  simp only [xoS,e0,e1]
 | slcS x lo hi=>
  have e0:=h x (by simp [XO.opnds])
  have e1:evo G fr1 lo=evo G fr2 lo:=zBi fun y hy=>h y (by simp [XO.opnds,hy])
  have e2:evo G fr1 hi=evo G fr2 hi:=zBi fun y hy=>h y (by simp [XO.opnds,hy])
  simp only [xoS,e0,e1,e2]
 | slcL x lo hi mx sz=>
  have e0:=h x (by simp [XO.opnds])
  have e1:evo G fr1 lo=evo G fr2 lo:=zBi fun y hy=>h y (by simp [XO.opnds,hy])
  have e2:evo G fr1 hi=evo G fr2 hi:=zBi fun y hy=>h y (by simp [XO.opnds,hy])
  have e3:evo G fr1 mx=evo G fr2 mx:=zBi fun y hy=>h y (by simp [XO.opnds,hy])
  simp only [xoS,e0,e1,e2,e3]
 | slcA x lo hi len sz=>
  have e0:=h x (by simp [XO.opnds])
  have e1:evo G fr1 lo=evo G fr2 lo:=zBi fun y hy=>h y (by simp [XO.opnds,hy])
  have e2:evo G fr1 hi=evo G fr2 hi:=zBi fun y hy=>h y (by simp [XO.opnds,hy])
  simp only [xoS,e0,e1,e2]
 | lenS x=>
  have e0:=h x (by simp [XO.opnds])
  simp only [xoS,e0]
 | lenL x=>
  have e0:=h x (by simp [XO.opnds])
  simp only [xoS,e0]
 | lenM x=>
  have e0:=h x (by simp [XO.opnds])
  simp only [xoS,e0]
 | lenK n=>rfl
 | cap x=>
  have e0:=h x (by simp [XO.opnds])
  simp only [xoS,e0]
 | append x y sz bytes=>
  have e0:=h x (by simp [XO.opnds])
  have e1:=h y (by simp [XO.opnds])
  simp only [xoS,e0,e1]
 | copy x y sz=>
  have e0:=h x (by simp [XO.opnds])
  have e1:=h y (by simp [XO.opnds])
  simp only [xoS,e0,e1]
 | clrL x sz z=>
  have e0:=h x (by simp [XO.opnds])
  simp only [xoS,e0]
 | clrM x=>
  have e0:=h x (by simp [XO.opnds])
  simp only [xoS,e0]
 | min x y=>
  have e0:=h x (by simp [XO.opnds])
  have e1:=h y (by simp [XO.opnds])
  simp only [xoS,e0,e1]
 | max x y=>
  have e0:=h x (by simp [XO.opnds])
  have e1:=h y (by simp [XO.opnds])
  simp only [xoS,e0,e1]
 | mkslice l c sz bytes z=>
  have e0:=h l (by simp [XO.opnds])
  have e1:=h c (by simp [XO.opnds])
  simp only [xoS,e0,e1]
 | mkmap =>rfl
 | lookup ag ks m k z ok=>
  have e0:=h m (by simp [XO.opnds])
  have e1:=h k (by simp [XO.opnds])
  simp only [xoS,e0,e1]
 | mupd ag ks m k v=>
  have e0:=h m (by simp [XO.opnds])
  have e1:=h k (by simp [XO.opnds])
  have e2:=h v (by simp [XO.opnds])
  simp only [xoS,e0,e1,e2]
 | del ag ks m k=>
  have e0:=h m (by simp [XO.opnds])
  have e1:=h k (by simp [XO.opnds])
  simp only [xoS,e0,e1]
 | mkfunc fn first caps=>
  have e0:evs G fr1 first=evs G fr2 first:=zB0 fun y hy=>h y (by simp [XO.opnds,hy])
  have e1:evs G fr1 caps=evs G fr2 caps:=zB0 fun y hy=>h y (by simp [XO.opnds,hy])
  simp only [xoS,e0,e1]
 | mkif t x=>
  have e0:=h x (by simp [XO.opnds])
  simp only [xoS,e0]
 | tas x t ok z=>
  have e0:=h x (by simp [XO.opnds])
  simp only [xoS,e0]
 | rngS x=>
  have e0:=h x (by simp [XO.opnds])
  simp only [xoS,e0]
 | nextS x=>
  have e0:=h x (by simp [XO.opnds])
  simp only [xoS,e0]
 | call f args=>
  have e0:evs G fr1 args=evs G fr2 args:=zB0 fun y hy=>h y (by simp [XO.opnds,hy])
  simp only [xoS,e0]
 | callv f args=>
  have e0:=h f (by simp [XO.opnds])
  have e1:evs G fr1 args=evs G fr2 args:=zB0 fun y hy=>h y (by simp [XO.opnds,hy])
  simp only [xoS,e0,e1]
 | invoke r m args=>
  have e0:=h r (by simp [XO.opnds])
  have e1:evs G fr1 args=evs G fr2 args:=zB0 fun y hy=>h y (by simp [XO.opnds,hy])
  simp only [xoS,e0,e1]
noncomputable section
variable {nt:Nat->Bool} {G:Cx}
def zGV:List XV->List Nat
 | []=>[]
 | .t n::r=>n::zGV r
 | _::r=>zGV r
theorem zDd {n:Nat}:∀{l:List XV},XV.t n∈l->n∈zGV l
 | .t m::r,h=>by
  rcases List.mem_cons.1 h with h | h
  ·cases h;exact .head _
  ·exact .tail _ (zDd h)
 | .c v::r,h=>by
  rcases List.mem_cons.1 h with h | h
  ·cases h
  ·exact zDd (l:=r) h
 | .g v::r,h=>by
  rcases List.mem_cons.1 h with h | h
  ·cases h
  ·exact zDd (l:=r) h
end
end Go.Sy
namespace Go.Sy
set_option maxRecDepth 8000
noncomputable section
variable {nt:Nat->Bool} {G:Cx}
def l0:L8:=.mk (.tup []) (.tup []) (.tup []) (.tup []) (.tup []) (.tup []) (.tup []) (.tup [])
end
end Go.Sy
