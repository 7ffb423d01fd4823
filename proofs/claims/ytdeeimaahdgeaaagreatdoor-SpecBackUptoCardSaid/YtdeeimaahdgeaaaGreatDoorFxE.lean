/- A LIBRARY: WHAT A FUNCTION'S CODE RECKONS, AS A LEAN FUNCTION, AND THAT ITS WORD IS THE MODEL'S: part 5 of 6. No condition. -/
import Derived.Test.YtdeeimaahdgeaaaGreatDoorFxD
set_option linter.unusedVariables false
set_option linter.unusedSimpArgs false
namespace Go.Sy
section
variable {β:Type} {P:Program} {U:Nat} {G:Cx} {tb:TbF} {th:TbH} {st:Sta} {r:β}
theorem zNG {th:TbH} {f:Nat} {e:FEnt} (h:zJy th f=some e):e∈th/\e.f=f:=by
 induction th with
 | nil=>cases h
 | cons s r ih=>
  simp only [zJy] at h;split at h
  ·rename_i q;cases h;exact ⟨.head _,(zb q).symm⟩
  ·exact ⟨.tail _ (ih h).1,(ih h).2⟩
theorem zLX (htb:TbW P G (tbS tb)) (hth:∀e∈th,FOK P G e) (hG:GPP G) {o:FOp} (hok:opOK o.o.op=true) {k:AV->Sta->Option β} (s:CPS st) (h:fopT G tb th st o k=some r):∃v u st',Stp G tb st true k r (wopT G (tbS tb) st (toT th o)) v u st':=by
 unfold fopT at h;unfold wopT toT;split at h
 ·rename_i ho;simp only [ho,Option.map_none];exact zM8 htb hG hok s h
 ·rename_i ds ho;simp only [ho,Option.map_some];unfold zRI at h;unfold zKt;split at h
  ·rename_i f args hop;simp only [hop];split at h
   ·rename_i e he;obtain ⟨hm,hf⟩:=zNG he;simp only [zJz,he,Option.map_some];split at h
    ·rename_i vs hv;simp only [hv];have hok':args.all xvOK=true:=by rw [hop] at hok;simp only [opOK,XO.opnds,zH,Bool.and_true] at hok;exact hok
     exact zML (hth e hm) s (zD6 hG s.fr hok' hv) h
    ·cases h
   ·cases h
  ·rename_i fx args hop;simp only [hop];have hok':xvOK fx=true/\args.all xvOK=true:=by rw [hop] at hok;simp only [opOK,XO.opnds,zH,List.all_append,List.all_cons,List.all_nil,Bool.and_true,Bool.and_eq_true] at hok;exact hok
   split at h
   ·rename_i f' first caps hf';simp only [hf'];split at h
    ·rename_i e he;obtain ⟨hm,hf⟩:=zNG he;simp only [zJz,he,Option.map_some];split at h
     ·rename_i vs hv;simp only [hv];refine zML (hth e hm) s (fun x hx=>?_) h
      have hcf:=zE hG s.fr hok'.1 hf';cases hcf with
      | func _ _ _ q1 q2=>
       rcases List.mem_append.1 hx with hx | hx
       ·rcases List.mem_append.1 hx with hx | hx
        ·exact q1 x hx
        ·exact zD6 hG s.fr hok'.2 hv x hx
       ·exact q2 x hx
     ·cases h
    ·cases h
   ·cases h
  ·cases h
theorem CPS.skip (s:CPS st) {d:Option Nat}:CPS (st.put d (.tup [])):=s.putd (.tup _ fun e he=>by cases he)
theorem CPS.frzS {st:Sta} (s:CPS st) (F:List Nat):CPS (frzS F (zEC F st.H) st):=by
 have hF:HCP st.mv st.m (zEC F st.H):=fun p hp=>s.H p (zDf hp).1
 refine ⟨fun t u hu=>?_,fun p hp=>s.H p (zAc hp).1,s.V,fun p hp=>s.lt p (zAc hp).1⟩
 obtain ⟨v,hv,rfl⟩:=zIb hu;have hc:=s.fr t v hv;unfold frzV;split
 ·exact hc
 ·split
  ·rename_i u' he;exact (zLb hF 8 hc he).cp
  ·exact hc
theorem CPS.symV {st:Sta} (s:CPS st) {v:AV} (hc:CP st.mv st.m v):CP st.mv st.m (symV st.V v):=by
 unfold Sy.symV;split
 ·split
  ·rename_i hV;exact .lst _ _ (s.V _ _ hV).2
  ·exact hc
 ·exact hc
theorem CPS.frzVS {st:Sta} (s:CPS st):CPS (frzVS st):=by
 refine ⟨fun t u hu=>?_,s.H,fun j vi h=>(by cases h),s.lt⟩
 have hu:Fr.get (st.fr.map fun p=>(p.1,Sy.symV st.V p.2)) t=some u:=hu
 rw [Fr.get_map] at hu;cases hg:Fr.get st.fr t with
 | none=>rw [hg] at hu;cases hu
 | some u0=>
  rw [hg] at hu;cases hu;exact s.symV (s.fr t u0 hg)
theorem zSP (htb:TbW P G (tbS tb)) (hth:∀e∈th,FOK P G e) (hG:GPP G) {o:FOp} (hok:opOK o.o.op=true) {k:AV->Sta->Option β} (s:CPS st) (h:fopR G tb th st o k=some r):∃v u st',Stp G tb st true k r (wopR G (tbS tb) st (toT th o)) v u st':=by
 unfold fopR at h;unfold wopR;have e:isFz (toT th o).h (toT th o).o.op=isFz o.h o.o.op:=by
  obtain ⟨⟨d,op,g⟩,ks,hh⟩:=o;cases op <;> cases hh <;> rfl
 rw [e];cases hf:isFz o.h o.o.op with
 | true=>
  rw [hf] at h;simp only at h ⊢;have hw:∀C,wop G (tbS tb) st o.o.op [] C->WXd st (xoS G ze st.fr st.H st.m o.o.op) C:=fun C hc=>by
   cases ho:o.o.op <;> rw [ho] at hf hc <;> first | exact hc | cases hf
  have h:fop false G tb st o.o.op [] (fun v st=>ffrz st v k)=some r:=by
   cases ho:o.o.op <;> rw [ho] at hf h <;> first | exact h | cases hf
  obtain ⟨v,u,st',q⟩:=zM8 htb hG hok s h;have hu:=q.eq rfl;subst hu;have hk:=q.k;unfold ffrz at hk;split at hk
  ·rename_i hsy;refine ⟨_,_,_,hk,.refl _,fun _=>rfl,q.cst.symV q.cp,q.cst.frzVS,fun C hC=>hw _ (q.w _ ?_),q.le⟩
   unfold wfrz;rw [hsy];exact hC
  ·rename_i hsy;simp only at hk;split at hk
   ·rename_i v' hv;refine ⟨v',v',_,hk,.refl _,fun _=>rfl,(zLb (fun p hp=>q.cst.H p (zDf hp).1) 8 q.cp hv).cp,q.cst.frzS _,fun C hC=>hw _ (q.w _ ?_),q.le⟩
    unfold wfrz;rw [hsy];simp only [hv];exact hC
   ·cases hk
 | false=>
  rw [hf] at h;simp only at h ⊢;exact zLX htb hth hG hok s h
theorem zIf (htb:TbW P G (tbS tb)) (hth:∀e∈th,FOK P G e) (hG:GPP G):∀{ops:List FOp} {k:Sta->Option β} {st:Sta},(∀o∈ops,opOK o.o.op=true)->CPS st->fops G tb th ops k st=some r →
  ∃st',k st'=some r/\CPS st'/\∀C:Sta->Prop,C st'->wops G (tbS tb) (ops.map (toT th)) C st
 | [],k,st,_,s,h=>⟨st,h,s,fun C hC=>hC⟩
 | o::ops,k,st,hok,s,h=>by
  have hok':∀o'∈ops,opOK o'.o.op=true:=fun o' h'=>hok o' (.tail _ h')
  have step:∀{st:Sta},CPS st->fopR G tb th st o (fun v st=>fops G tb th ops k (st.put o.o.dst v))=some r->∃st',k st'=some r/\CPS st'/\∀C:Sta->Prop,C st'->wopR G (tbS tb) st (toT th o) fun v st=>∃v',WK v v'/\wops G (tbS tb) (ops.map (toT th)) C (st.put o.o.dst v'):=fun {st} s h=>by
   obtain ⟨v,u,st1,q⟩:=zSP htb hth hG (hok o (.head _)) s h;obtain ⟨st',h1,h2,h3⟩:=zIf htb hth hG hok' (q.cst.putd q.cp) q.k;exact ⟨st',h1,h2,fun C hC=>q.w _ ⟨u,q.wkn,h3 C hC⟩⟩
  have skip:∀{st:Sta},CPS st->fops G tb th ops k (st.put o.o.dst (.tup []))=some r->∃st',k st'=some r/\CPS st'/\∀C:Sta->Prop,C st'->wops G (tbS tb) (ops.map (toT th)) C (st.put o.o.dst (.tup [])):=fun {st} s h=>zIf htb hth hG hok' s.skip h
  simp only [fops] at h;split at h
  ·rename_i hg;obtain ⟨st',h1,h2,h3⟩:=step s h;refine ⟨st',h1,h2,fun C hC=>?_⟩
   have hg':(toT th o).o.guard=none:=hg;simp only [List.map_cons,wops,hg'];exact h3 C hC
  ·rename_i t b hg;have hg':(toT th o).o.guard=some (t,b):=hg;split at h
   ·rename_i c hc;have h:=zHy h;have hp:=put_same hc;simp only [hp] at h;have hst:(⟨st.fr,st.H,st.V,st.m,st.mv⟩:Sta)=st:=rfl;rw [hst] at h;split at h
    ·rename_i hcb;obtain ⟨st',h1,h2,h3⟩:=step s h;refine ⟨st',h1,h2,fun C hC=>?_⟩
     simp only [List.map_cons,wops,hg',hc];unfold brT;have:=h3 C hC;cases c <;> (simp only [Br,hp,hcb];exact this)
    ·rename_i hcb;obtain ⟨st',h1,h2,h3⟩:=skip s h;refine ⟨st',h1,h2,fun C hC=>?_⟩
     simp only [List.map_cons,wops,hg',hc];unfold brT;have:=h3 C hC;cases c <;> (simp only [Br,hp,hcb];exact this)
   ·rename_i hc;obtain ⟨st',h1,h2,h3⟩:=skip s h;refine ⟨st',h1,h2,fun C hC=>?_⟩
    simp only [List.map_cons,wops,hg',hc];exact h3 C hC
   ·cases h
theorem zSQ (htb:TbW P G (tbS tb)) (hG:GPP G) {o:XO} {ks:List K} (hok:opOK o=true) {k:AV->Sta->Option β} (s:CPS st) (h:fopD G tb st o ks k=some r):∃v st',k v st'=some r/\CP st'.mv st'.m v/\CPS st'/\∀C:AV->Sta->Prop,C v st'->wopD G (tbS tb) st o ks C:=by
 have s0:CPS ⟨st.fr,st.H,[],st.m,st.mv⟩:=⟨s.fr,s.H,fun j vi h=>(by cases h),s.lt⟩
 have gen:fop false G tb ⟨st.fr,st.H,[],st.m,st.mv⟩ o ks (fun v st'=>k v ⟨st'.fr,st'.H,st.V,st'.m,st'.mv⟩)=some r->∃v st',k v st'=some r/\CP st'.mv st'.m v/\CPS st'/\∀C:AV->Sta->Prop,C v st'->wop G (tbS tb) ⟨st.fr,st.H,[],st.m,st.mv⟩ o ks (fun v st'=>C v ⟨st'.fr,st'.H,st.V,st'.m,st'.mv⟩):=fun h=>by
  obtain ⟨v,u,st',q⟩:=zM8 htb hG hok s0 h;have:=q.eq rfl;subst this;exact ⟨u,_,q.k,q.cp,⟨q.cst.fr,q.cst.H,fun j vi hj=>⟨Nat.lt_of_lt_of_le (s.V j vi hj).1 q.le,(s.V j vi hj).2⟩,q.cst.lt⟩,fun C hC=>q.w _ hC⟩
 cases o <;> first | (cases h;done) | exact gen h | skip
 have h:FXd st (xoS G ze st.fr st.H st.m _) k=some r:=h;unfold FXd at h;split at h
 ·rename_i v H m e;obtain ⟨h1,h2⟩:=zKu (by rfl) hok hG s.fr s.H e
  obtain ⟨h3,h4⟩:=zMF (by rfl) s.lt e
  exact ⟨v,_,h,h1,⟨s.fr.mono (Nat.le_refl _) h4,h2,s.V,h3⟩,fun C hc=>by simp only [wopD];unfold WXd;simp only [e];exact hc⟩
 ·cases h
theorem zG6 (htb:TbW P G (tbS tb)) (hG:GPP G):∀{ops:List FOp} {k:Sta->Option β} {st:Sta},(∀o∈ops,opOK o.o.op=true)->CPS st->zG5 G tb ops k st=some r →
  ∃st',k st'=some r/\CPS st'/\∀C:Sta->Prop,C st'->zBd G (tbS tb) (ops.map (toT th)) C st
 | [],k,st,_,s,h=>⟨st,h,s,fun C hC=>hC⟩
 | o::ops,k,st,hok,s,h=>by
  have hok':∀o'∈ops,opOK o'.o.op=true:=fun o' h'=>hok o' (.tail _ h')
  have step:∀{st:Sta},CPS st->fopD G tb st o.o.op o.ks (fun v st=>zG5 G tb ops k (st.put o.o.dst v))=some r->∃st',k st'=some r/\CPS st'/\∀C:Sta->Prop,C st'->wopD G (tbS tb) st o.o.op o.ks fun v st=>zBd G (tbS tb) (ops.map (toT th)) C (st.put o.o.dst v):=fun {st} s h=>by
   obtain ⟨v,st1,q1,q2,q3,q4⟩:=zSQ htb hG (hok o (.head _)) s h;obtain ⟨st',h1,h2,h3⟩:=zG6 htb hG hok' (q3.putd q2) q1;exact ⟨st',h1,h2,fun C hC=>q4 _ (h3 C hC)⟩
  have skip:∀{st:Sta},CPS st->zG5 G tb ops k (st.put o.o.dst (.tup []))=some r->∃st',k st'=some r/\CPS st'/\∀C:Sta->Prop,C st'->zBd G (tbS tb) (ops.map (toT th)) C (st.put o.o.dst (.tup [])):=fun {st} s h=>zG6 htb hG hok' s.skip h
  simp only [zG5] at h;split at h
  ·rename_i hg;obtain ⟨st',h1,h2,h3⟩:=step s h;refine ⟨st',h1,h2,fun C hC=>?_⟩
   have hg':(toT th o).o.guard=none:=hg;simp only [List.map_cons,zBd,hg'];exact h3 C hC
  ·rename_i t b hg;have hg':(toT th o).o.guard=some (t,b):=hg;split at h
   ·rename_i c hc;have h:=zHy h;have hp:=put_same hc;simp only [hp] at h;have hst:(⟨st.fr,st.H,st.V,st.m,st.mv⟩:Sta)=st:=rfl;rw [hst] at h;split at h
    ·rename_i hcb;obtain ⟨st',h1,h2,h3⟩:=step s h;refine ⟨st',h1,h2,fun C hC=>?_⟩
     simp only [List.map_cons,zBd,hg',hc];unfold brT;have:=h3 C hC;cases c <;> (simp only [Br,hp,hcb];exact this)
    ·rename_i hcb;obtain ⟨st',h1,h2,h3⟩:=skip s h;refine ⟨st',h1,h2,fun C hC=>?_⟩
     simp only [List.map_cons,zBd,hg',hc];unfold brT;have:=h3 C hC;cases c <;> (simp only [Br,hp,hcb];exact this)
   ·rename_i hc;obtain ⟨st',h1,h2,h3⟩:=skip s h;refine ⟨st',h1,h2,fun C hC=>?_⟩
    simp only [List.map_cons,zBd,hg',hc];exact h3 C hC
   ·cases h
theorem zJA (o:FOp):clsQ (toT th o)=clsQ (toQ o):=by
 unfold clsQ toT toQ;cases o.h <;> rfl
theorem zMM:∀(ops:List FOp) (ds:List XD),zFW (ops.map (toT th)) ds=zFW (ops.map toQ) ds
 | [],_=>rfl
 | o::r,[]=>rfl
 | o::r,d::ds=>by
  simp only [List.map_cons,zFW,zMM r ds];rfl
theorem zOV:∀(ops:List FOp) (ds:List XD) (i:Nat) (bars hard rds:List Nat),seqQ i bars hard rds (ops.map (toT th)) ds=seqQ i bars hard rds (ops.map toQ) ds
 | [],_,_,_,_,_=>rfl
 | o::r,[],_,_,_,_=>rfl
 | o::r,d::ds,i,bars,hard,rds=>by
  simp only [List.map_cons,seqQ,zOV r ds,zJA]
theorem Heap.get_putne {h h':Nat} (hne:h'≠h):∀{H:Heap} {o:HO},(H.put h o).get h'=H.get h'
 | [],o=>by
  simp only [Heap.put,Heap.get]
 | (k,x)::r,o=>by
  simp only [Heap.put];cases hk:Nat.beq k h with
  | true=>
   have:=zb hk;subst this;simp only [Heap.get];cases hb:Nat.beq k h' with
   | true=>exact absurd (zb hb).symm hne
   | false=>rfl
  | false=>
   simp only [Heap.get];split
   ·rfl
   ·exact Heap.get_putne hne
theorem zVB {lo:Option Nat} {st:Sta} (s:CPS st) {o:FOp} (h:okQ lo G st o=true) (hc:clsQ (toT th o)=1):(∀g v,XV.t g∈o.o.op.opnds->st.fr.get g=some v->CP st.mv (bndL lo st.m) v)/\∀h str cs,h<bndL lo st.m->st.H.get h=some (.cells str cs)->∀x∈cs,CP st.mv (bndL lo st.m) x:=by
 rw [zJA] at hc;unfold okQ at h;rw [hc] at h;simp only at h;cases lo with
 | none=>exact ⟨fun g v _ hv=>s.fr g v hv,fun h str cs _ hg x hx=>by
   obtain ⟨_,_,e,hcs⟩:=s.H.get hg;cases e;exact hcs x hx⟩
 | some l=>
  simp only [Bool.and_eq_true,List.all_eq_true] at h;refine ⟨fun g v hg hv=>?_,fun h' str cs hh hg x hx=>?_⟩
  ·have:=h.1 g (zDd hg);rw [hv] at this;exact (s.fr g v hv).lt 12 this
  ·obtain ⟨_,_,e,hcs⟩:=s.H.get hg;cases e;have h2:=zOC h.2 (Nat.lt_of_lt_of_le hh (Nat.min_le_left _ _)) hg;exact (hcs x hx).lt 12 (List.all_eq_true.1 h2 x hx)
theorem zSR (htb:TbW P G (tbS tb)) (hth:∀e∈th,FOK P G e) (hG:GPP G) {o:FOp} (hok:opOK o.o.op=true) {k:AV->Sta->Option β} (s:CPS st) {lo:Option Nat} (hlo:okQ lo G st o=true) (h:fopQ G tb th st o k=some r):∃v u st',Stp G tb st true k r (wopT G (tbS tb) st (toT th o)) v u st' ∧
  (clsQ (toT th o)<=1->HV st st')/\(clsQ (toT th o)=2->st'.V=st.V/\st'.mv=st.mv/\st.m<=st'.m/\∀h,h<bndL lo st.m->st'.H.get h=st.H.get h):=by
 unfold fopQ at h;split at h
 ·rename_i hc;obtain ⟨v,u,st',q⟩:=zLX htb hth hG hok s h;have hk:=q.k;split at hk
  rotate_left
  ·cases hk
  rename_i hmv;have hmv:=zb hmv;have hc:clsQ (toT th o)<=1:=by rw [zJA];exact Nat.le_of_ble_eq_true hc
  refine ⟨v,u,st',⟨hk,q.wkn,q.eq,q.cp,q.cst,q.w,q.le⟩,fun _=>?_,fun h2=>by omega⟩
  have hnone:(toT th o).h=none:=by
   cases hh:(toT th o).h with
   | none=>rfl
   | some es=>unfold clsQ at hc;rw [hh] at hc;simp at hc
  have hw:=q.w (fun _ x=>x=st') rfl
  unfold wopT at hw;rw [hnone] at hw;obtain ⟨fr,H,V,m,mv⟩:=st;by_cases h1:clsQ (toT th o)=1
  ·have hw:=zRC (C':=fun _ x=>x=st'/\HV ⟨fr,H,V,m,mv⟩ x) (m2:=m) (ms:=m) hG hok ⟨fun _ _=>rfl,fun h str cs hh hg c hcc=>by
    obtain ⟨_,_,e,hcs⟩:=s.H.get hg;cases e;exact hcs c hcc⟩ (fun t v _ hv=>s.fr t v hv) (cls1 hnone h1) (fun v hv=>⟨hv,rfl,rfl,rfl,rfl⟩) hw
   obtain ⟨_,_,rfl,hz⟩:=zOQ hw;exact hz
  ·have hk:=cls0 hnone (by omega)
   have hw:=zRB (C':=fun _ x=>x=st'/\HV ⟨fr,H,V,m,mv⟩ x) (H2:=H) (V2:=V) (m2:=m) (mv2:=mv) hk.1 hk.2 (fun v x hx=>by rw [hx];exact hmv) (fun v f hv=>⟨hv,rfl,rfl,rfl,rfl⟩) hw
   obtain ⟨_,_,rfl,hz⟩:=zOQ hw;exact hz
 ·rename_i hc;obtain ⟨v,u,st',q⟩:=zLX htb hth hG hok s h;have hc:¬clsQ (toT th o)<=1:=by
   rw [zJA];intro hle;rw [Nat.ble_eq_true_of_le hle] at hc;cases hc
  refine ⟨v,u,st',q,fun h1=>absurd h1 hc,fun h2=>?_⟩
  have hnone:(toT th o).h=none:=by
   cases hh:(toT th o).h with
   | none=>rfl
   | some es=>unfold clsQ at h2;rw [hh] at h2;simp at h2
  have hw:=q.w (fun _ x=>x=st') rfl
  unfold wopT at hw;rw [hnone] at hw;have fin:∀{o':XO},zI o'=2->WXd st (xoS G ze st.fr st.H st.m o') (fun _ x=>x=st')->st'.V=st.V/\st'.mv=st.mv/\st.m<=st'.m/\∀h,h<bndL lo st.m->st'.H.get h=st.H.get h:=fun hk hw=>by
   unfold WXd at hw;split at hw
   ·rename_i v' H' n e;subst hw;obtain ⟨ob,_,rfl,rfl⟩:=zOz hk e;refine ⟨rfl,rfl,Nat.le_succ _,fun h hh=>?_⟩
    have:h≠st.m:=by have:=zT7 (lo:=lo) (m:=st.m);omega
    simp only [Heap.get];cases hb:Nat.beq st.m h with
    | true=>exact absurd (zb hb).symm this
    | false=>rfl
   ·exact hw.elim
  obtain ⟨⟨d,op,g⟩,ks,hh⟩:=o;have hh':hh=none:=by
   cases hh with
   | none=>rfl
   | some _=>cases hnone
  subst hh';simp only [clsQ,toT,Option.map_none] at h2;simp only [toT] at hw;cases op <;> first | (simp [zI] at h2;done) | exact fin (by rfl) hw | exact fin (o':=.alloc _) rfl hw | skip
  ·simp only at h2;split at h2
   ·cases h2
   ·rename_i hks;simp only [wop] at hw;exact fin (o':=.bslice _ _ _ _) rfl hw
  ·rename_i x y sz _;simp only at h2;split at h2
   ·cases h2
   ·rename_i hks;have hc2:clsQ (toQ ⟨⟨d,.store x y sz,g⟩,ks,none⟩)=2:=by
     unfold clsQ toQ;simp only [Option.map_none]
    have hlo':∃l h off,lo=some l/\x.ev G st.fr=some (.ptr h off)/\l<=h:=by
     unfold okQ at hlo;rw [hc2] at hlo;simp only at hlo;split at hlo
     ·split at hlo
      ·rename_i hx;exact ⟨_,_,_,rfl,hx,Nat.le_of_ble_eq_true hlo⟩
      ·cases hlo
     ·cases hlo
    obtain ⟨l,h,off,rfl,hx,hle⟩:=hlo';simp only [wop,hx] at hw;unfold WXd at hw;split at hw
    ·rename_i v' H' n e;subst hw;simp only [xoS,hx] at e;split at e
     ·rename_i he _;cases he;split at e
      ·split at e
       ·split at e
        ·cases e;refine ⟨rfl,rfl,Nat.le_refl _,fun h' hh=>?_⟩
         have hne:h'≠h:=by
          have:bndL (some l) st.m<=l:=Nat.min_le_left _ _;omega
         exact Heap.get_putne hne
        ·cases e
       ·cases e
      ·cases e
     ·cases e
    ·exact hw.elim
theorem zG7 (htb:TbW P G (tbS tb)) (hth:∀e∈th,FOK P G e) (hG:GPP G) {lo:Option Nat}:∀{ops:List FOp} {k:Sta->Option β} {st:Sta},(∀o∈ops,opOK o.o.op=true)->CPS st->zGu lo G tb th ops k st=some r →
  ∃c:Nat->Sta,c 0=st/\ChQ G (tbS tb) lo (ops.map (toT th)) c/\CPS (c ops.length)/\k (c ops.length)=some r
 | [],k,st,_,s,h=>⟨fun _=>st,rfl,⟨fun i t ht=>(by cases ht),fun i t ht=>(by cases ht),fun i t ht=>(by cases ht),fun i _=>⟨s.fr,s.H⟩,fun i t ht=>(by cases ht)⟩,s,h⟩
 | o::ops,k,st,hok,s,h=>by
  have hok':∀o'∈ops,opOK o'.o.op=true:=fun o' h'=>hok o' (.tail _ h')
  have hlo:okQ lo G st o=true:=by
   simp only [zGu] at h;split at h
   ·assumption
   ·cases h
  have join:∀{c':Nat->Sta},ChQ G (tbS tb) lo (ops.map (toT th)) c'->zCU G (tbS tb) st (toT th o) (fun x=>x=c' 0)->(clsQ (toT th o)<=1->HV st (c' 0)) →
    (clsQ (toT th o)=2->(c' 0).V=st.V/\(c' 0).mv=st.mv/\st.m<=(c' 0).m/\∀h,h<bndL lo st.m->(c' 0).H.get h=st.H.get h)->CPS (c' ops.length)->k (c' ops.length)=some r →
    ∃c:Nat->Sta,c 0=st/\ChQ G (tbS tb) lo ((o::ops).map (toT th)) c/\CPS (c (o::ops).length)/\k (c (o::ops).length)=some r:=fun {c'} ch h1 h2 h3 h4 h5=>by
   refine ⟨fun n=>match n with
    | 0=>st
    | n+1=>c' n,rfl,⟨fun i t ht=>?_,fun i t ht=>?_,fun i t ht=>?_,fun i hi=>?_,fun i t ht=>?_⟩,h4,h5⟩
   ·cases i with
    | zero=>cases ht;exact h1
    | succ i=>exact ch.st i t ht
   ·cases i with
    | zero=>cases ht;exact h2
    | succ i=>exact ch.hv i t ht
   ·cases i with
    | zero=>cases ht;exact h3
    | succ i=>exact ch.al i t ht
   ·cases i with
    | zero=>exact ⟨s.fr,s.H⟩
    | succ i=>exact ch.cp i (by simpa using hi)
   ·cases i with
    | zero=>cases ht;exact zVB s hlo
    | succ i=>exact ch.rd i t ht
  have step:fopQ G tb th st o (fun v st=>zGu lo G tb th ops k (st.put o.o.dst v))=some r->(∀C:Sta->Prop,(wopT G (tbS tb) st (toT th o) fun v st=>∃v',WK v v'/\C (st.put o.o.dst v'))->zCU G (tbS tb) st (toT th o) C) →
    ∃c:Nat->Sta,c 0=st/\ChQ G (tbS tb) lo ((o::ops).map (toT th)) c/\CPS (c (o::ops).length)/\k (c (o::ops).length)=some r:=fun h hs=>by
   obtain ⟨v,u,st1,q,q1,q2⟩:=zSR htb hth hG (hok o (.head _)) s hlo h;obtain ⟨c',h0,h1,h2,h3⟩:=zG7 htb hth hG hok' (q.cst.putd q.cp) q.k;have e:∀{d:Option Nat},HV st1 (st1.put d u):=fun {d}=>by cases d <;> exact ⟨rfl,rfl,rfl,rfl⟩
   refine join h1 (hs _ (q.w _ ⟨u,q.wkn,h0.symm⟩)) (fun hc=>?_) (fun hc=>?_) h2 h3
   ·rw [h0];exact (q1 hc).trans e
   ·obtain ⟨a1,a2,a3,a4⟩:=q2 hc;rw [h0];have e:=e (d:=o.o.dst);rw [e.V,e.mv,e.m,e.H];exact ⟨a1,a2,a3,a4⟩
  have skip:zGu lo G tb th ops k (st.put o.o.dst (.tup []))=some r->(∀C:Sta->Prop,C (st.put o.o.dst (.tup []))->zCU G (tbS tb) st (toT th o) C) →
    ∃c:Nat->Sta,c 0=st/\ChQ G (tbS tb) lo ((o::ops).map (toT th)) c/\CPS (c (o::ops).length)/\k (c (o::ops).length)=some r:=fun h hs=>by
   obtain ⟨c',h0,h1,h2,h3⟩:=zG7 htb hth hG hok' s.skip h;have e:∀{d:Option Nat},HV st (st.put d (.tup [])):=fun {d}=>by cases d <;> exact ⟨rfl,rfl,rfl,rfl⟩
   refine join h1 (hs _ h0.symm) (fun hc=>?_) (fun hc=>?_) h2 h3
   ·rw [h0];exact e
   ·have e:=e (d:=o.o.dst);rw [h0,e.V,e.mv,e.m,e.H];exact ⟨rfl,rfl,Nat.le_refl _,fun _ _=>rfl⟩
  simp only [zGu,hlo] at h;split at h
  ·rename_i hg;refine step h fun C hC=>?_
   have hg':(toT th o).o.guard=none:=hg;simp only [zCU,hg'];exact hC
  ·rename_i t b hg;have hg':(toT th o).o.guard=some (t,b):=hg;split at h
   ·rename_i c hc;have h:=zHy h;have hp:=put_same hc;simp only [hp] at h;have hst:(⟨st.fr,st.H,st.V,st.m,st.mv⟩:Sta)=st:=rfl;rw [hst] at h;split at h
    ·rename_i hcb;refine step h fun C hC=>?_
     simp only [zCU,hg',hc];unfold brT;cases c <;> (simp only [Br,hp,hcb];exact hC)
    ·rename_i hcb;refine skip h fun C hC=>?_
     simp only [zCU,hg',hc];unfold brT;cases c <;> (simp only [Br,hp,hcb];exact hC)
   ·rename_i hc;refine skip h fun C hC=>?_
    simp only [zCU,hg',hc];exact hC
   ·cases h
def mkT (U:Nat) (G:Cx) (tb:TbF) (th:TbH) (r:β):FC->(List Nat->Ext->Sta->Option β)->TC
 | .skip,_=>.skip
 | .ret,_=>.ret
 | .exit i,_=>.exit i
 | .reg ops,_=>.reg (ops.map (toT th))
 | .draw pn ops ds,_=>.draw pn (ops.map (toT th)) ds
 | .drawQ ops ds,_=>.drawQ (ops.map (toT th)) ds
 | .seq a b,K=>.seq (mkT U G tb th r a fun gs=>zEG (K gs) (FT U G tb th b (K gs))) (mkT U G tb th r b K)
 | .cond c a b,K=>.cond c (mkT U G tb th r a K) (mkT U G tb th r b K)
 | .block i b,K=>.block i (mkT U G tb th r b fun gs=>zIW i (K gs))
 | .unroll k b,K=>.unroll k (mkT U G tb th r b fun gs=>match gs with
   | n::gs=>zEG (K gs) (zFC (FT U G tb th b) (K gs) n)
   | []=>fun _ _=>none)
 | .loop _ c b,K=>.loop c (fun gs vs H V=>match gs with
   | n::gs=>CPS (mkW c vs H V)/\zId (FT U G tb th b) c (K gs) n vs H V=some r
   | []=>False) (mkT U G tb th r b fun gs=>match gs with
   | n::gs=>zN9 c (K gs) (zId (FT U G tb th b) c (K gs) (n-1))
   | []=>fun _ _=>none)
 | .seqJ _ c a b,K=>.seqJ c (fun gs vs H V=>CPS (mkW c vs H V)/\FT U G tb th b (K gs) (mkW c vs H V)=some r)
   (mkT U G tb th r a fun gs=>zEG (K gs) (cutO c fun vs H V=>FT U G tb th b (K gs) (mkW c vs H V))) (mkT U G tb th r b K)
def fcOK:FC->Bool
 | .reg ops | .draw _ ops _ | .drawQ ops _=>ops.all fun t=>opOK t.o.op
 | .seq a b | .seqJ _ _ a b | .cond _ a b=>fcOK a&&fcOK b
 | .block _ b | .loop _ _ b | .unroll _ b=>fcOK b
 | _=>true
def fcN (pn:List Nat):FC->Bool
 | .reg ops | .drawQ ops _=>ops.all fun t=>match t.o.dst with
  | some d=>!inN d pn
  | none=>true
 | .draw pn' ops _=>(ops.all fun t=>match t.o.dst with
  | some d=>!inN d pn
  | none=>true)&&pn.all fun t=>inN t pn'
 | .seq a b | .seqJ _ _ a b | .cond _ a b=>fcN pn a&&fcN pn b
 | .block _ b | .loop _ _ b | .unroll _ b=>fcN pn b
 | _=>true
theorem zGC:∀{fc:FC} {K:List Nat->Ext->Sta->Option β},er (mkT U G tb th r fc K)=ef fc
 | .skip,_ | .ret,_ | .exit _,_=>rfl
 | .reg ops,_=>by simp only [mkT,er,ef,List.map_map];rfl
 | .draw _ ops _,_=>by simp only [mkT,er,ef,List.map_map];rfl
 | .drawQ ops _,_=>by simp only [mkT,er,ef,List.map_map];rfl
 | .seq a b,_=>by simp only [mkT,er,ef,zGC]
 | .cond _ a b,_=>by simp only [mkT,er,ef,zGC]
 | .block _ b,_=>by simp only [mkT,er,ef,zGC]
 | .loop _ _ b,_=>by simp only [mkT,er,ef,zGC]
 | .unroll _ b,_=>by simp only [mkT,er,ef,zGC]
 | .seqJ _ _ a b,_=>by simp only [mkT,er,ef,zGC]
theorem zGD:∀{fc:FC} {K:List Nat->Ext->Sta->Option β},tcOK (mkT U G tb th r fc K)=fcOK fc
 | .skip,_ | .ret,_ | .exit _,_=>rfl
 | .reg ops,_=>by simp only [mkT,tcOK,fcOK,List.all_map];rfl
 | .draw _ ops _,_=>by simp only [mkT,tcOK,fcOK,List.all_map];rfl
 | .drawQ ops _,_=>by simp only [mkT,tcOK,fcOK,List.all_map];rfl
 | .seq a b,_=>by simp only [mkT,tcOK,fcOK,zGD]
 | .cond _ a b,_=>by simp only [mkT,tcOK,fcOK,zGD]
 | .block _ b,_=>by simp only [mkT,tcOK,fcOK,zGD]
 | .loop _ _ b,_=>by simp only [mkT,tcOK,fcOK,zGD]
 | .unroll _ b,_=>by simp only [mkT,tcOK,fcOK,zGD]
 | .seqJ _ _ a b,_=>by simp only [mkT,tcOK,fcOK,zGD]
theorem zJB {pn:List Nat}:∀{fc:FC} {K:List Nat->Ext->Sta->Option β},tcN pn (mkT U G tb th r fc K)=fcN pn fc
 | .skip,_ | .ret,_ | .exit _,_=>rfl
 | .reg ops,_=>by simp only [mkT,tcN,fcN,List.all_map];rfl
 | .draw _ ops _,_=>by simp only [mkT,tcN,fcN,List.all_map];rfl
 | .drawQ ops _,_=>by simp only [mkT,tcN,fcN,List.all_map];rfl
 | .seq a b,_=>by simp only [mkT,tcN,fcN,zJB]
 | .cond _ a b,_=>by simp only [mkT,tcN,fcN,zJB]
 | .block _ b,_=>by simp only [mkT,tcN,fcN,zJB]
 | .loop _ _ b,_=>by simp only [mkT,tcN,fcN,zJB]
 | .unroll _ b,_=>by simp only [mkT,tcN,fcN,zJB]
 | .seqJ _ _ a b,_=>by simp only [mkT,tcN,fcN,zJB]
theorem zF2 (hth:∀e∈th,FOK P G e):∀{fc:FC} {K:List Nat->Ext->Sta->Option β},tcH (HOK P G) (mkT U G tb th r fc K)
 | .skip,_ | .ret,_ | .exit _,_=>trivial
 | .reg ops,_=>by
  intro t ht es hes e he;obtain ⟨o,_,rfl⟩:=List.mem_map.1 ht;simp only [toT] at hes;cases ho:o.h with
  | none=>rw [ho] at hes;cases hes
  | some p=>
   rw [ho,Option.map_some] at hes;cases hes;obtain ⟨e',he',rfl⟩:=List.mem_map.1 he;exact (hth e' he').h
 | .draw _ ops _,_=>trivial
 | .drawQ ops _,_=>by
  intro t ht es hes e he;obtain ⟨o,_,rfl⟩:=List.mem_map.1 ht;simp only [toT] at hes;cases ho:o.h with
  | none=>rw [ho] at hes;cases hes
  | some p=>
   rw [ho,Option.map_some] at hes;cases hes;obtain ⟨e',he',rfl⟩:=List.mem_map.1 he;exact (hth e' he').h
 | .seq a b,_=>⟨zF2 hth,zF2 hth⟩
 | .cond _ a b,_=>⟨zF2 hth,zF2 hth⟩
 | .block _ b,_=>zF2 (fc:=b) hth
 | .loop _ _ b,_=>zF2 (fc:=b) hth
 | .unroll _ b,_=>zF2 (fc:=b) hth
 | .seqJ _ _ a b,_=>⟨zF2 hth,zF2 hth⟩
theorem zEH (htb:TbW P G (tbS tb)) (hth:∀e∈th,FOK P G e) (hG:GPP G):∀{fc:FC} {K:List Nat->Ext->Sta->Option β} {gs:List Nat} {Q:Ext->Sta->Prop} {st:Sta},fcOK fc=true->CPS st->FT U G tb th fc (K gs) st=some r →
  (∀x st',CPS st'->K gs x st'=some r->Q x st')->WT G (tbS tb) (mkT U G tb th r fc K) gs Q st
 | .skip,K,gs,Q,st,_,s,h,hQ=>hQ _ _ s h
 | .ret,K,gs,Q,st,_,s,h,hQ=>hQ _ _ s h
 | .exit i,K,gs,Q,st,_,s,h,hQ=>hQ _ _ s h
 | .reg ops,K,gs,Q,st,hok,s,h,hQ=>by
  obtain ⟨st',h1,h2,h3⟩:=zIf htb hth hG (fun o ho=>List.all_eq_true.1 hok o ho) s h
  exact h3 _ (hQ _ _ h2 h1)
 | .draw pn ops ds,K,gs,Q,st,hok,s,h,hQ=>by
  simp only [FT] at h;split at h
  ·rename_i hd;obtain ⟨st',h1,h2,h3⟩:=zG6 (th:=th) htb hG (fun o ho=>List.all_eq_true.1 hok o ho) s h
   have e:(ops.map (toT th)).map TOp.o=ops.map FOp.o:=by rw [List.map_map];rfl
   simp only [mkT,WT,e,hd];exact h3 _ (hQ _ _ h2 h1)
  ·cases h
 | .drawQ ops ds,K,gs,Q,st,hok,s,h,hQ=>by
  simp only [FT] at h;split at h
  ·rename_i hd;obtain ⟨c,h0,h1,h2,h3⟩:=zG7 htb hth hG (fun o ho=>List.all_eq_true.1 hok o ho) s h
   simp only [mkT,WT];refine ⟨by rw [zMM,zOV];exact hd,_,c,h0,h1,?_⟩
   rw [List.length_map];exact hQ _ _ h2 h3
  ·cases h
 | .seq a b,K,gs,Q,st,hok,s,h,hQ=>by
  simp only [fcOK,Bool.and_eq_true] at hok;refine zEH htb hth hG (fc:=a) (K:=fun gs=>zEG (K gs) (FT U G tb th b (K gs))) hok.1 s h fun x st' s' hx=>?_
  cases x with
  | normal=>exact zEH htb hth hG hok.2 s' hx hQ
  | exit i=>exact hQ _ _ s' hx
  | ret=>exact hQ _ _ s' hx
 | .cond c a b,K,gs,Q,st,hok,s,h,hQ=>by
  simp only [fcOK,Bool.and_eq_true] at hok;simp only [FT] at h;simp only [mkT,WT];split at h
  ·rename_i cb hcb;rw [hcb];split at h
   ·rename_i n;have h:=zHy h;have hget:st.fr.get n=some (.bool cb):=hcb;have hp:=put_same hget;simp only [hp] at h;unfold brT;cases cb with
    | true=>simp only [Br,hp];exact zEH htb hth hG hok.1 s h hQ
    | false=>simp only [Br,hp];exact zEH htb hth hG hok.2 s h hQ
   ·rename_i hne;rcases zIY h with ⟨rfl,h⟩ | ⟨rfl,h⟩
    ·cases c with
     | t n=>exact absurd rfl (hne n)
     | _=>exact zEH htb hth hG hok.1 s h hQ
    ·cases c with
     | t n=>exact absurd rfl (hne n)
     | _=>exact zEH htb hth hG hok.2 s h hQ
  ·cases h
 | .block i b,K,gs,Q,st,hok,s,h,hQ=>by
  refine zEH htb hth hG (fc:=b) (K:=fun gs=>zIW i (K gs)) hok s h fun x st' s' hx=>?_
  cases x with
  | normal=>exact hQ _ _ s' hx
  | ret=>exact hQ _ _ s' hx
  | exit j=>
   simp only [zIW] at hx;simp only [zOB];split at hx
   ·rename_i e;simp only [e];exact hQ _ _ s' hx
   ·rename_i e;simp only [e];exact hQ _ _ s' hx
 | .unroll k b,K,gs,Q,st,hok,s,h,hQ=>by
  have key:∀(n:Nat) (st:Sta),CPS st->zFC (FT U G tb th b) (K gs) n st=some r->zK9 (fun n Q st=>WT G (tbS tb) (mkT U G tb th r b fun gs=>match gs with
    | n::gs=>zEG (K gs) (zFC (FT U G tb th b) (K gs) n)
    | []=>fun _ _=>none) (n::gs) Q st) Q n st:=by
   intro n
   induction n with
   | zero=>intro st _ h;cases h
   | succ n ih=>
    intro st s h;refine zEH htb hth hG (fc:=b) (K:=fun gs=>match gs with
     | n::gs=>zEG (K gs) (zFC (FT U G tb th b) (K gs) n)
     | []=>fun _ _=>none) (gs:=n::gs) hok s h fun x st' s' hx=>?_
    cases x with
    | normal=>exact ih st' s' hx
    | exit i=>exact hQ _ _ s' hx
    | ret=>exact hQ _ _ s' hx
  exact key k st s h
 | .loop id c b,K,gs,Q,st,hok,s,h,hQ=>by
  obtain ⟨vs,H,V,h1,h2,h3⟩:=zFE s h;refine ⟨⟨U,h3 _ ⟨h2,h1⟩⟩,?_⟩
  rintro n vs H V ⟨s1,hl⟩
  cases n with
  | zero=>cases hl
  | succ n=>
   refine zEH htb hth hG (fc:=b) (K:=fun gs=>match gs with
    | n::gs=>zN9 c (K gs) (zId (FT U G tb th b) c (K gs) (n-1))
    | []=>fun _ _=>none) (gs:=(n+1)::gs) hok s1 hl fun x st' s' hx=>?_
   cases x with
   | normal=>
    obtain ⟨vs',H',V',k1,k2,k3⟩:=zFE s' hx;exact ⟨n,Nat.lt_succ_self n,k3 _ ⟨k2,k1⟩⟩
   | exit i=>exact hQ _ _ s' hx
   | ret=>exact hQ _ _ s' hx
 | .seqJ id c a b,K,gs,Q,st,hok,s,h,hQ=>by
  simp only [fcOK,Bool.and_eq_true] at hok;refine ⟨zEH htb hth hG (fc:=a) (K:=fun gs=>zEG (K gs) (cutO c fun vs H V=>FT U G tb th b (K gs) (mkW c vs H V))) hok.1 s h fun x st' s' hx=>?_,fun vs H V hJ=>zEH htb hth hG hok.2 hJ.1 hJ.2 hQ⟩
  cases x with
  | normal=>
   obtain ⟨vs,H,V,h1,h2,h3⟩:=zFE s' hx;exact h3 _ ⟨h2,h1⟩
  | exit i=>exact hQ _ _ s' hx
  | ret=>exact hQ _ _ s' hx
theorem zAI (htb:TbW P G (tbS tb)) (hth:∀e∈th,FOK P G e) (hG:GPP G):∀{fc:FC} {K:Ext->Sta->Option β} {st:Sta},fcOK fc=true->CPS st->FT U G tb th fc K st=some r->∃x st',CPS st'/\K x st'=some r
 | .skip,K,st,_,s,h=>⟨_,_,s,h⟩
 | .ret,K,st,_,s,h=>⟨_,_,s,h⟩
 | .exit i,K,st,_,s,h=>⟨_,_,s,h⟩
 | .reg ops,K,st,hok,s,h=>by
  obtain ⟨st',h1,h2,h3⟩:=zIf htb hth hG (fun o ho=>List.all_eq_true.1 hok o ho) s h
  exact ⟨_,_,h2,h1⟩
 | .draw pn ops ds,K,st,hok,s,h=>by
  simp only [FT] at h;split at h
  ·obtain ⟨st',h1,h2,h3⟩:=zG6 (th:=th) htb hG (fun o ho=>List.all_eq_true.1 hok o ho) s h
   exact ⟨_,_,h2,h1⟩
  ·cases h
 | .drawQ ops ds,K,st,hok,s,h=>by
  simp only [FT] at h;split at h
  ·obtain ⟨c,h0,h1,h2,h3⟩:=zG7 (th:=th) htb hth hG (fun o ho=>List.all_eq_true.1 hok o ho) s h
   exact ⟨_,_,h2,h3⟩
  ·cases h
 | .seq a b,K,st,hok,s,h=>by
  simp only [fcOK,Bool.and_eq_true] at hok;obtain ⟨x,st',s',hx⟩:=zAI htb hth hG (fc:=a) hok.1 s h;cases x with
  | normal=>exact zAI htb hth hG hok.2 s' hx
  | exit i=>exact ⟨_,_,s',hx⟩
  | ret=>exact ⟨_,_,s',hx⟩
 | .cond c a b,K,st,hok,s,h=>by
  simp only [fcOK,Bool.and_eq_true] at hok;simp only [FT] at h;split at h
  ·rename_i cb hcb;split at h
   ·rename_i n;have h:=zHy h;have hp:=put_same (show st.fr.get n=some (.bool cb) from hcb)
    simp only [hp] at h;cases cb with
    | true=>exact zAI htb hth hG hok.1 s h
    | false=>exact zAI htb hth hG hok.2 s h
   ·rcases zIY h with ⟨_,h⟩ | ⟨_,h⟩
    ·exact zAI htb hth hG hok.1 s h
    ·exact zAI htb hth hG hok.2 s h
  ·cases h
 | .block i b,K,st,hok,s,h=>by
  obtain ⟨x,st',s',hx⟩:=zAI htb hth hG (fc:=b) hok s h;cases x with
  | normal=>exact ⟨_,_,s',hx⟩
  | ret=>exact ⟨_,_,s',hx⟩
  | exit j=>
   simp only [zIW] at hx;split at hx
   ·exact ⟨_,_,s',hx⟩
   ·exact ⟨_,_,s',hx⟩
 | .unroll k b,K,st,hok,s,h=>by
  have key:∀(n:Nat) (st:Sta),CPS st->zFC (FT U G tb th b) K n st=some r->∃x st',CPS st'/\K x st'=some r:=by
   intro n
   induction n with
   | zero=>intro st _ h;cases h
   | succ n ih=>
    intro st s h;obtain ⟨x,st',s',hx⟩:=zAI htb hth hG (fc:=b) hok s h;cases x with
    | normal=>exact ih st' s' hx
    | exit i=>exact ⟨_,_,s',hx⟩
    | ret=>exact ⟨_,_,s',hx⟩
  exact key k st s h
 | .loop id c b,K,st,hok,s,h=>by
  obtain ⟨vs,H,V,h1,h2,_⟩:=zFE s h;have key:∀(n:Nat) vs H V,CPS (mkW c vs H V)->zId (FT U G tb th b) c K n vs H V=some r->∃x st',CPS st'/\K x st'=some r:=by
   intro n
   induction n with
   | zero=>intro vs H V _ h;cases h
   | succ n ih=>
    intro vs H V s h;obtain ⟨x,st',s',hx⟩:=zAI htb hth hG (fc:=b) hok s h;cases x with
    | normal=>
     obtain ⟨vs',H',V',k1,k2,_⟩:=zFE s' hx;exact ih vs' H' V' k2 k1
    | exit i=>exact ⟨_,_,s',hx⟩
    | ret=>exact ⟨_,_,s',hx⟩
  exact key _ vs H V h2 h1
 | .seqJ id c a b,K,st,hok,s,h=>by
  simp only [fcOK,Bool.and_eq_true] at hok;obtain ⟨x,st',s',hx⟩:=zAI htb hth hG (fc:=a) hok.1 s h;cases x with
  | normal=>
   obtain ⟨vs,H,V,h1,h2,_⟩:=zFE s' hx;exact zAI htb hth hG hok.2 h2 h1
  | exit i=>exact ⟨_,_,s',hx⟩
  | ret=>exact ⟨_,_,s',hx⟩
end
end Go.Sy
namespace Go.Sy
structure FFn where
 np:Nat
 nt:Nat
 fc:FC
 res:List XR
def FFn.xf (x:FFn):XF:=⟨x.np,x.nt,ef x.fc,x.res⟩
def valF (U:Nat) (G:Cx) (tb:TbF) (th:TbH) (x:FFn) (args:List AV):Option AV:=match Nat.beq args.length x.np with
 | true=>FT U G tb th x.fc (endV x.res) ⟨slots 0 args,[],[],0,0⟩
 | false=>none
def outG (U:Nat) (G:Cx) (tb:TbF) (th:TbH) (x:FFn) (pn:List Nat) (args:List AV) (H:Heap) (V:Vecs):Option (AV×Heap×Vecs):=match Nat.beq args.length x.np&&pinE (slots 0 args) 0 pn&&Nat.beq pn.length H.length with
 | true=>FT U G tb th x.fc (endO x.res pn) ⟨slots 0 args,H,V,H.length,V.length⟩
 | false=>none
section
variable {P:Program} {U:Nat} {G:Cx} {tb:TbF} {th:TbH} {st:Sta}
theorem FnX.enters {P:Program} {f:Nat} {xf:XF} (hx:FnX P f xf):Enters P f:=by
 obtain ⟨fn,hfn,hcf,hname⟩:=hx.ok;unfold zMg at hcf;obtain ⟨body,hbody,hcf⟩:=za hcf;exact ⟨fn,body,hfn,hbody,hname⟩
theorem zUo (s:CPS st):∀(d:Nat) {v v':AV},CP st.mv st.m v->zAs st.H st.V d v=some v'->PP v':=by
 intro d
 induction d with
 | zero=>intro v v' _ h;cases h
 | succ d ih=>
  intro v v' hc h;have al:∀{l l':List AV},(∀e∈l,CP st.mv st.m e)->zp (zAs st.H st.V d) l=some l'->∀e∈l',PP e:=fun hl hm=>by
   obtain ⟨m1,m2⟩:=zAj hm;intro x hx;obtain ⟨i,hi⟩:=List.getElem?_of_mem hx;have hlt:=(List.getElem?_eq_some_iff.1 hi).1;have hv:=List.getElem?_eq_getElem (show i<_ from m1▸hlt)
   exact ih (hl _ (List.mem_of_getElem? hv)) (m2 i _ x hv hi)
  cases hc with
  | sym j hj=>
   simp only [zAs] at h;split at h
   ·rename_i hV;cases h;exact .lst _ _ (s.V _ _ hV).2
   ·cases h
  | agg cs hcs=>
   simp only [zAs] at h;split at h
   ·rename_i hq;cases h;exact .agg _ (al hcs hq)
   ·cases h
  | tup cs hcs=>
   simp only [zAs] at h;split at h
   ·rename_i hq;cases h;exact .tup _ (al hcs hq)
   ·cases h
  | ptr hh off hk=>
   simp only [zAs] at h;split at h
   ·rename_i hg;obtain ⟨_,_,e,hcc⟩:=s.H.get hg;cases e;split at h
    ·rename_i hq;cases h;exact .eptr _ _ (.agg _ (al hcc hq))
    ·cases h
   ·cases h
  | iface t u hu=>
   simp only [zAs] at h;split at h
   ·rename_i hq;cases h;exact .iface _ _ (ih hu hq)
   ·cases h
  | func f a b ha hb=>
   simp only [zAs] at h;split at h
   ·rename_i h1;split at h
    ·rename_i h2;cases h;exact .func _ _ _ (al ha h1) (al hb h2)
    ·cases h
   ·cases h
  | bool b=>cases h;exact .bool _
  | int q m=>cases h;exact .int _ _
  | str s=>cases h;exact .str _
  | nilptr=>cases h;exact .nilptr
  | nilslice=>cases h;exact .nilslice
  | nilmap=>cases h;exact .nilmap
  | nilfunc=>cases h;exact .nilfunc
  | niliface=>cases h;exact .niliface
  | eptr e off hp=>cases h;exact .eptr _ _ hp
  | lst sz es hp=>cases h;exact .lst _ _ hp
  | _=>cases h
theorem zKK (s:CPS st) {rs:List XR} {vs:List AV} (h:ress st.H st.fr rs=some vs):CP st.mv st.m (zBt vs):=zLW (zM7 s.fr s.H h)
theorem zNH {res:List XR} {x:Ext} {v:AV} (s:CPS st) (h:endV res x st=some v):PP v/\endP res (fun u=>u=v) x st:=by
 have key:∀{x:Ext},(∀i,x≠.exit i)->(match ress st.H st.fr res with | some vs=>zAs st.H st.V 8 (zBt vs) | none=>none)=some v->PP v/\endP res (fun u=>u=v) x st:=fun {x} hx h=>by
  split at h
  ·rename_i vs hvs;refine ⟨zUo s 8 (zKK s hvs) h,?_⟩
   unfold endP endW;cases x with
   | exit i=>exact absurd rfl (hx i)
   | normal=>simp only [hvs,h]
   | ret=>simp only [hvs,h]
  ·cases h
 cases x with
 | exit i=>cases h
 | normal=>exact key (fun i e=>by cases e) h
 | ret=>exact key (fun i e=>by cases e) h
theorem zUp {f:Nat} {x:FFn} (hx:FnX P f x.xf) (hok:fcOK x.fc=true) (hG:GPP G) (hm:zAi P G) (hmix:P.follows .mixedOrders=true) (htb:TbW P G (tbS tb)) (hth:∀e∈th,FOK P G e) {args:List AV} {v:AV} (hp:∀a∈args,PP a) (h:valF U G tb th x args=some v):
  Enters P f/\PP v/\∀H nx,FnT P G f args H nx v H nx:=by
 unfold valF at h;split at h
 rotate_left
 ·cases h
 rename_i hlen;have s0:CPS ⟨slots 0 args,[],[],0,0⟩:=⟨zHx fun a ha=>(hp a ha).cp,fun p hp=>(by cases hp),fun j vi h=>(by cases h),fun p hp=>(by cases hp)⟩
 obtain ⟨y,st',s',hy⟩:=zAI htb hth hG hok s0 h;have hpv:=(zNH s' hy).1;have hw:=zEH htb hth hG (K:=fun _=>endV x.res) (gs:=[]) (Q:=endP x.res fun u=>u=v) hok s0 h fun y st' s' hy=>(zNH s' hy).2
 obtain ⟨h1,h2⟩:=zVZ hx zGC.symm (by rw [zGD];exact hok) hG hm hmix htb (zF2 hth) (zb hlen) hp hw
 exact ⟨h1,hpv,h2⟩
theorem zNI {n:Nat}:∀{H:Heap},outB n H=true->∀p∈H,∃str cs,p.2=.cells str cs/\∀c∈cs,zQD n c=true
 | [],h,p,hp=>by cases hp
 | (k,o)::H,h,p,hp=>by
  cases o with
  | cells str cs=>
   simp only [outB,Bool.and_eq_true] at h;rcases List.mem_cons.1 hp with rfl | hp
   ·exact ⟨str,cs,rfl,fun c hc=>List.all_eq_true.1 h.1 c hc⟩
   ·exact zNI h.2 p hp
  | _=>cases h
theorem zNJ:∀{V:Vecs},ownB V=true->∀j vi,V.get j=some vi->vi.owns=true
 | [],h,j,vi,e=>by cases e
 | (k,o)::r,h,j,vi,e=>by
  simp only [ownB,Bool.and_eq_true] at h;rw [Vecs.get_cons] at e;split at e
  ·cases e;exact h.1
  ·exact zNJ h.2 j vi e
theorem zKL {res:List XR} {pn:List Nat} {x:Ext} {v:AV} {H2:Heap} {V2:Vecs} (s:CPS st) (h:endO res pn x st=some (v,H2,V2)):
  (PP v\/∃j,v=.sym j/\j<V2.length)/\CPW H2 V2/\H2.keys=List.range' 0 pn.length/\outB V2.length H2=true/\ownB V2=true/\endH res pn (fun u H' V'=>u=v/\H'=H2/\V'=V2) x st:=by
 have key:∀{x:Ext},(∀i,x≠.exit i)->endO res pn x st=some (v,H2,V2)->(PP v\/∃j,v=.sym j/\j<V2.length)/\CPW H2 V2/\H2.keys=List.range' 0 pn.length/\outB V2.length H2=true/\ownB V2=true/\endH res pn (fun u H' V'=>u=v/\H'=H2/\V'=V2) x st:=by
  intro x hx h;have e1:endO res pn x st=endO res pn .ret st:=by cases x with | exit i=>exact absurd rfl (hx i) | _=>rfl
  have e2:∀R,endH res pn R x st=endH res pn R .ret st:=fun R=>by cases x with | exit i=>exact absurd rfl (hx i) | _=>rfl
  rw [e1] at h;rw [e2];unfold endO at h;unfold endH endW;simp only at h ⊢;split at h
  ·rename_i vs hvs;simp only [hvs];split at h
   ·rename_i hsy;simp only [hsy];split at h
    ·rename_i hb;obtain ⟨us,H,V,k1,k2,k3,k4,k5,k6,k7,k8⟩:=zF1 s (fun v hv=>by cases hv) h
     split at k1
     ·rename_i hob;simp only [Bool.and_eq_true] at hob;simp only [Option.some.injEq,Prod.mk.injEq] at k1;obtain ⟨rfl,rfl,rfl⟩:=k1;have hb':=hb;simp only [Bool.or_eq_false_iff] at hb;refine ⟨.inl (zHg 8 (zKK s hvs) hb.1),k4,by rw [k7,List.length_range],hob.1,hob.2,?_⟩
      simp only [hb'];exact k8 _ ⟨trivial,rfl,rfl⟩
     ·cases k1
    ·cases h
   ·rename_i hsy;simp only [hsy];split at h
    ·rename_i hpin;simp only [hpin];obtain ⟨us,H,V,k1,k2,k3,k4,k5,k6,k7,k8⟩:=zF1 s (fun v hv=>by rw [List.mem_singleton.1 hv];exact zKK s hvs) h
     split at k1
     ·rename_i u;split at k1
      ·rename_i hob;simp only [Bool.and_eq_true] at hob;simp only [Option.some.injEq,Prod.mk.injEq] at k1;obtain ⟨rfl,rfl,rfl⟩:=k1;have hcu:=k2 u (.head _);refine ⟨.inr ?_,k4,by rw [k7,List.length_range],hob.2.1,hob.2.2,k8 _ ⟨rfl,rfl,rfl⟩⟩
       cases u with
       | sym j=>cases hcu with | sym _ hj=>exact ⟨j,rfl,hj⟩
       | _=>cases hob.1
      ·cases k1
     ·cases k1
    ·cases h
  ·cases h
 cases x with
 | exit i=>cases h
 | normal=>exact key (fun i e=>by cases e) h
 | ret=>exact key (fun i e=>by cases e) h
theorem zUq {f:Nat} {x:FFn} {grow:List (Nat×Nat)} {pn:List Nat} (hx:FnX P f x.xf) (hok:fcOK x.fc=true) (hpg:(fcN pn x.fc&&!inpl grow)=true) (hG:GPP G) (hm:zAi P G) (hmix:P.follows .mixedOrders=true) (htb:TbW P G (tbS tb)) (hth:∀e∈th,FOK P G e):FOK P G ⟨f,grow,outG U G tb th x pn⟩:=by
 have start:∀{args:List AV} {H:Heap} {V:Vecs} {v:AV} {H2:Heap} {V2:Vecs},(∀a∈args,CP V.length H.length a)->CPW H V->outG U G tb th x pn args H V=some (v,H2,V2)->args.length=x.np/\pinE (slots 0 args) 0 pn=true/\pn.length=H.length/\CPS ⟨slots 0 args,H,V,H.length,V.length⟩/\FT U G tb th x.fc (endO x.res pn) ⟨slots 0 args,H,V,H.length,V.length⟩=some (v,H2,V2):=fun hc hw h=>by
  unfold outG at h;split at h
  ·rename_i hb;simp only [Bool.and_eq_true] at hb;exact ⟨zb hb.1.1,hb.1.2,zb hb.2,hw.mk' (zHx hc),h⟩
  ·cases h
 rw [Bool.and_eq_true,Bool.not_eq_true'] at hpg;obtain ⟨hpn,hgr⟩:=hpg;refine ⟨HOK.of hgr hx.enters fun args H V v H2 V2 hpre hv=>?_,fun args H V v H2 V2 hc hw hk hv=>?_⟩
 ·obtain ⟨hc,hw,hk⟩:=hpre;obtain ⟨e1,e2,e3,s0,h⟩:=start hc hw hv;obtain ⟨y,st',s',hy⟩:=zAI htb hth hG hok s0 h;obtain ⟨q1,q2,q3,q4,q5,_⟩:=zKL s' hy;refine ⟨⟨q1,by rw [q3,hk,e3],fun p hp=>?_,zNJ q5⟩,?_⟩
  ·obtain ⟨str,cs,e,hcs⟩:=zNI q4 p hp;refine ⟨str,cs,e,fun c hcm=>?_⟩
   have h1:=hcs c hcm;obtain ⟨_,_,e',hcc⟩:=q2.H p hp;rw [e] at e';cases e';unfold zQD at h1;split at h1
   ·rename_i j;exact .inr ⟨j,rfl,by simpa [Nat.blt_eq] using h1⟩
   ·exact .inl (zBK 12 (hcc c hcm) h1)
  ·have hwt:=zEH htb hth hG (K:=fun _=>endO x.res pn) (gs:=[]) (Q:=endH x.res pn (fun u H' V'=>u=v/\H'=H2/\V'=V2)) hok s0 h fun y st' s' hy=>(zKL s' hy).2.2.2.2.2
   exact (zVA hx zGC.symm (by rw [zGD];exact hok) hG hm hmix htb (zF2 hth) (by rw [zJB];exact hpn) e1 e2 hwt).2
 ·obtain ⟨e1,e2,e3,s0,h⟩:=start hc hw hv;obtain ⟨y,st',s',hy⟩:=zAI htb hth hG hok s0 h;obtain ⟨q1,q2,_⟩:=zKL s' hy;exact fun j vi hj=>q2.V j vi hj
structure HFun where
 f:Nat
 grow:List (Nat×Nat)
 pn:List Nat
 x:FFn
structure Grp where
 vs:List (Nat×FFn)
 hs:List HFun
abbrev RV:=Nat->List AV->Option AV
abbrev RH:=Nat->List AV->Heap->Vecs->Option (AV×Heap×Vecs)
def tbV (g:List (Nat×FFn)) (r:RV) (tb:TbF):TbF:=match g with
 | []=>tb
 | p::g=>(p.1,r p.1)::tbV g r tb
def tbO (g:List HFun) (r:RH) (th:TbH):TbH:=match g with
 | []=>th
 | p::g=>⟨p.f,p.grow,r p.f⟩::tbO g r th
def zOa (U:Nat) (G:Cx) (tb:TbF) (th:TbH):List (Nat×FFn)->RV
 | [],_=>fun _=>none
 | p::g,f=>match Nat.beq f p.1 with
  | true=>valF U G tb th p.2
  | false=>zOa U G tb th g f
def zOb (U:Nat) (G:Cx) (tb:TbF) (th:TbH):List HFun->RH
 | [],_=>fun _ _ _=>none
 | p::g,f=>match Nat.beq f p.f with
  | true=>outG U G tb th p.x p.pn
  | false=>zOb U G tb th g f
def recG (U:Nat) (G:Cx) (tb:TbF) (th:TbH) (g:Grp):Nat->RV×RH
 | 0=>(fun _ _=>none,fun _ _ _ _=>none)
 | n+1=>(zOa U G (tbV g.vs (recG U G tb th g n).1 tb) (tbO g.hs (recG U G tb th g n).2 th) g.vs,zOb U G (tbV g.vs (recG U G tb th g n).1 tb) (tbO g.hs (recG U G tb th g n).2 th) g.hs)
def gv (U:Nat) (G:Cx) (tb:TbF) (th:TbH) (g:Grp) (n f:Nat):List AV->Option AV:=(recG U G tb th g n).1 f
def go (U:Nat) (G:Cx) (tb:TbF) (th:TbH) (g:Grp) (n f:Nat):List AV->Heap->Vecs->Option (AV×Heap×Vecs):=(recG U G tb th g n).2 f
structure GrpOK (P:Program) (g:Grp):Prop where
 vs:∀p∈g.vs,FnX P p.1 p.2.xf/\fcOK p.2.fc=true
 hs:∀p∈g.hs,FnX P p.f p.x.xf/\fcOK p.x.fc=true/\(fcN p.pn p.x.fc&&!inpl p.grow)=true
theorem zUr {g:Grp} (hg:GrpOK P g) (hG:GPP G) (hm:zAi P G) (hmix:P.follows .mixedOrders=true) (htb:TbW P G (tbS tb)) (hth:∀e∈th,FOK P G e):∀n,TbW P G (tbS (tbV g.vs (recG U G tb th g n).1 tb))/\∀e∈tbO g.hs (recG U G tb th g n).2 th,FOK P G e:=by
 have mk:∀{r:RV×RH},(∀p∈g.vs,∀args v,(∀a∈args,PP a)->r.1 p.1 args=some v->Enters P p.1/\PP v/\∀H nx,FnT P G p.1 args H nx v H nx)->(∀p∈g.hs,FOK P G ⟨p.f,p.grow,r.2 p.f⟩)->TbW P G (tbS (tbV g.vs r.1 tb))/\∀e∈tbO g.hs r.2 th,FOK P G e:=by
  intro r h1 h2
  constructor
  ·have:∀(l:List (Nat×FFn)),(∀p∈l,p∈g.vs)->TbW P G (tbS (tbV l r.1 tb)):=by
    intro l
    induction l with
    | nil=>intro _;exact htb
    | cons p l ih=>
     intro hl s hs;simp only [tbV,tbS,List.map_cons,List.mem_cons] at hs;rcases hs with rfl | hs
     ·exact fun args v hp hv=>h1 p (hl p (.head _)) args v hp hv
     ·exact ih (fun q hq=>hl q (.tail _ hq)) s hs
   exact this g.vs fun p hp=>hp
  ·have:∀(l:List HFun),(∀p∈l,p∈g.hs)->∀e∈tbO l r.2 th,FOK P G e:=by
    intro l
    induction l with
    | nil=>intro _;exact hth
    | cons p l ih=>
     intro hl e he;simp only [tbO,List.mem_cons] at he;rcases he with rfl | he
     ·exact h2 p (hl p (.head _))
     ·exact ih (fun q hq=>hl q (.tail _ hq)) e he
   exact this g.hs fun p hp=>hp
 intro n
 induction n with
 | zero=>
  refine mk (fun p hp args v _ h=>by cases h) fun p hp=>⟨⟨(hg.hs p hp).1.enters,fun args H V v H2 V2 _ h=>(by cases h)⟩,fun args H V v H2 V2 _ _ _ h=>(by cases h)⟩
 | succ n ih=>
  obtain ⟨i1,i2⟩:=ih;refine mk (fun p hp args v hpp h=>?_) fun p hp=>?_
  ·have:∀(l:List (Nat×FFn)),(∀q∈l,q∈g.vs)->zOa U G (tbV g.vs (recG U G tb th g n).1 tb) (tbO g.hs (recG U G tb th g n).2 th) l p.1 args=some v->Enters P p.1/\PP v/\∀H nx,FnT P G p.1 args H nx v H nx:=by
    intro l
    induction l with
    | nil=>intro _ h;cases h
    | cons q l ihl=>
     intro hl h;rw [zOa] at h;cases e:Nat.beq p.1 q.1 with
     | true=>
      rw [e] at h;have e:=zb e;obtain ⟨a1,a2⟩:=hg.vs q (hl q (.head _));rw [e];exact zUp a1 a2 hG hm hmix i1 i2 hpp h
     | false=>
      rw [e] at h;exact ihl (fun q hq=>hl q (.tail _ hq)) h
   exact this g.vs (fun q hq=>hq) h
  ·have:∀(l:List HFun),(∀q∈l,q∈g.hs)->FOK P G ⟨p.f,p.grow,zOb U G (tbV g.vs (recG U G tb th g n).1 tb) (tbO g.hs (recG U G tb th g n).2 th) l p.f⟩:=by
    intro l
    induction l with
    | nil=>intro _;exact ⟨⟨(hg.hs p hp).1.enters,fun args H V v H2 V2 _ h=>(by cases h)⟩,fun args H V v H2 V2 _ _ _ h=>(by cases h)⟩
    | cons q l ihl=>
     intro hl;rw [zOb];cases e:Nat.beq p.f q.f with
     | true=>
      have e:=zb e;obtain ⟨a1,a2,a3⟩:=hg.hs q (hl q (.head _));rw [e];have a4:=(hg.hs p hp).2.2;rw [Bool.and_eq_true] at a3 a4;exact zUq a1 a2 (by rw [Bool.and_eq_true];exact ⟨a3.1,a4.2⟩) hG hm hmix i1 i2
     | false=>exact ihl fun q hq=>hl q (.tail _ hq)
   exact this g.hs fun q hq=>hq
def addV (U:Nat) (G:Cx) (tb:TbF) (th:TbH) (g:Grp) (n:Nat):TbF:=tbV g.vs (gv U G tb th g n) tb
def addO (U:Nat) (G:Cx) (tb:TbF) (th:TbH) (g:Grp) (n:Nat):TbH:=tbO g.hs (go U G tb th g n) th
structure TabOK (P:Program) (G:Cx) (tb:TbF) (th:TbH):Prop where
 v:TbW P G (tbS tb)
 o:∀e∈th,FOK P G e
theorem TabOK.nil:TabOK P G [] []:=⟨fun s hs=>(by cases hs),fun e he=>(by cases he)⟩
def zBv (P:Program) (G:Cx) (f:Nat) (g:List AV->Option AV):Prop:=∀args v,(∀a∈args,PP a)->g args=some v->Enters P f/\PP v/\∀H nx,FnT P G f args H nx v H nx
theorem TabOK.ext (h:TabOK P G tb th) {f:Nat} {g:List AV->Option AV} (hg:zBv P G f g):TabOK P G ((f,g)::tb) th:=⟨fun s hs=>by
 simp only [tbS,List.map_cons,List.mem_cons] at hs;rcases hs with rfl | hs
 ·exact hg
 ·exact h.v s hs,h.o⟩
theorem GrpOK.nil:GrpOK P ⟨[],[]⟩:=⟨fun p hp=>(by cases hp),fun p hp=>(by cases hp)⟩
theorem GrpOK.consV {f:Nat} {x:FFn} {vs:List (Nat×FFn)} {hs:List HFun} (h1:FnX P f x.xf) (h2:fcOK x.fc=true) (h:GrpOK P ⟨vs,hs⟩):GrpOK P ⟨(f,x)::vs,hs⟩:=⟨fun p hp=>by
 rcases List.mem_cons.1 hp with rfl | hp
 ·exact ⟨h1,h2⟩
 ·exact h.vs p hp,h.hs⟩
theorem GrpOK.consO {x:HFun} {vs:List (Nat×FFn)} {hs:List HFun} (h1:FnX P x.f x.x.xf) (h2:fcOK x.x.fc=true) (h3:(fcN x.pn x.x.fc&&!inpl x.grow)=true) (h:GrpOK P ⟨vs,hs⟩):GrpOK P ⟨vs,x::hs⟩:=⟨h.vs,fun p hp=>by
 rcases List.mem_cons.1 hp with rfl | hp
 ·exact ⟨h1,h2,h3⟩
 ·exact h.hs p hp⟩
theorem TabOK.add (h:TabOK P G tb th) {g:Grp} (hg:GrpOK P g) (hG:GPP G) (hm:zAi P G) (hmix:P.follows .mixedOrders=true) (n:Nat):TabOK P G (addV U G tb th g n) (addO U G tb th g n):=
 let ⟨a,b⟩:=zUr hg hG hm hmix h.v h.o n
 ⟨a,b⟩
end
end Go.Sy
namespace Go.Sy
inductive LA where
 | u (k:Nat)
 | c (id:Nat) (c:Cut)
 | q
 | d (pn:List Nat)
structure An where
 ka:List (Nat×List K)
 ha:List (Nat×List D)
 cv:Option (List D)
 sj:List (Nat×Nat×Cut)
 lp:List LA
def lkA {α:Type}:List (Nat×α)->Nat->Option α
 | [],_=>none
 | p::r,n=>match Nat.beq n p.1 with
  | true=>some p.2
  | false=>lkA r n
def anOp (A:An) (o:XOper):FOp:=⟨o,match o.dst with
 | some d=>match lkA A.ka d with
  | some k=>k
  | none=>[]
 | none=>match o.op with
  | .store (.t a) _ _=>match lkA A.ka (10000+a) with
   | some k=>k
   | none=>[]
  | _=>[],match o.op with
 | .call f _=>lkA A.ha f
 | .callv _ _=>match o.dst with
  | some d=>match lkA A.ha (5000000+d) with
   | some k=>some k
   | none=>A.cv
  | none=>A.cv
 | .mkfunc _ _ _=>lkA A.ha 1000000
 | .mov _=>match o.dst with
  | some d=>lkA A.ha (2000000+d)
  | none=>none
 | _=>none⟩
def nthA {α:Type}:List α->Nat->Option α
 | [],_=>none
 | a::_,0=>some a
 | _::r,n+1=>nthA r n
def an (A:An):XC->Nat->Nat->FC×Nat×Nat
 | .skip,s,l=>(.skip,s,l)
 | .ret,s,l=>(.ret,s,l)
 | .exit i,s,l=>(.exit i,s,l)
 | .reg ops,s,l=>(.reg (ops.map (anOp A)),s,l)
 | .draw ops ds,s,l=>(match nthA A.lp l with
  | some (.d pn)=>.draw pn (ops.map (anOp A)) ds
  | _=>.drawQ (ops.map (anOp A)) ds,s,l+1)
 | .seq a b,s,l=>match an A a (s+1) l with
  | (a,s1,l1)=>match an A b s1 l1 with
   | (b,s2,l2)=>(match lkA A.sj s with
    | some (id,c)=>.seqJ id c a b
    | none=>.seq a b,s2,l2)
 | .cond c a b,s,l=>match an A a s l with
  | (a,s1,l1)=>match an A b s1 l1 with
   | (b,s2,l2)=>(.cond c a b,s2,l2)
 | .block i b,s,l=>match an A b s l with
  | (b,s1,l1)=>(.block i b,s1,l1)
 | .loop b,s,l=>match an A b s (l+1) with
  | (b,s1,l1)=>(match nthA A.lp l with
   | some (.u k)=>.unroll k b
   | some (.c id c)=>.loop id c b
   | _=>.skip,s1,l1)
 | .mrange ..,s,l=>(.skip,s,l)
def mkX (P:Program) (fn:Func) (A:An):FFn:=match zMg P fn with
 | some xf=>⟨xf.np,xf.nt,(an A xf.body 0 0).1,xf.res⟩
 | none=>⟨0,0,.skip,[]⟩
end Go.Sy
namespace Go.Sy
structure Tb (P:Program) (G:Cx) where
 T:Nat->TbF
 O:Nat->TbH
 T0:Nat->TbF
 O0:Nat->TbH
 g:Grp
 ok:∀U,TabOK P G (T U) (O U)
variable {P:Program} {G:Cx}
def Tb.nil:Tb P G:=⟨fun _=>[],fun _=>[],fun _=>[],fun _=>[],⟨[],[]⟩,fun _=>TabOK.nil⟩
def Tb.add (t:Tb P G) (r:Bool) (g:Grp) (hg:GrpOK P g) (hG:GPP G) (hm:zAi P G) (hmix:P.follows .mixedOrders=true):Tb P G:=
 ⟨fun U=>addV U G (t.T U) (t.O U) g (match r with | true=>U | false=>1),fun U=>addO U G (t.T U) (t.O U) g (match r with | true=>U | false=>1),t.T,t.O,g,fun U=>(t.ok U).add hg hG hm hmix _⟩
def Tb.ext (t:Tb P G) {f:Nat} {g:List AV->Option AV} (hg:zBv P G f g):Tb P G:=
 ⟨fun U=>(f,g)::t.T U,t.O,t.T,t.O,⟨[],[]⟩,fun U=>(t.ok U).ext hg⟩
noncomputable def gV (t:Tb P G) (n f:Nat):List AV->Option AV:=gv FUEL G (t.T0 FUEL) (t.O0 FUEL) t.g n f
noncomputable def gO (t:Tb P G) (n f:Nat):List AV->Heap->Vecs->Option (AV×Heap×Vecs):=go FUEL G (t.T0 FUEL) (t.O0 FUEL) t.g n f
noncomputable def fV (t:Tb P G) (d id:Nat) (x:FFn):List Nat->List AV->Heap->Vecs->Option AV:=FTat FUEL G (addV FUEL G (t.T0 FUEL) (t.O0 FUEL) t.g d) (addO FUEL G (t.T0 FUEL) (t.O0 FUEL) t.g d) id x.fc (endV x.res)
noncomputable def fO (t:Tb P G) (d id:Nat) (x:FFn) (pn:List Nat):List Nat->List AV->Heap->Vecs->Option (AV×Heap×Vecs):=FTat FUEL G (addV FUEL G (t.T0 FUEL) (t.O0 FUEL) t.g d) (addO FUEL G (t.T0 FUEL) (t.O0 FUEL) t.g d) id x.fc (endO x.res pn)
end Go.Sy
namespace Go.Sy
def Wp {β:Type} (o:Option β) (P:β->Prop):Prop:=∃x,o=some x/\P x
section
variable {α β:Type} {P Q:β->Prop}
theorem Wp.mk {x:β} (h:P x):Wp (Option.some x) P:=⟨x,rfl,h⟩
theorem zUs {x:β}:Wp (Option.some x) P↔P x:=⟨fun ⟨_,e,h⟩=>by cases e;exact h,fun h=>⟨x,rfl,h⟩⟩
theorem zPY:Wp (none:Option β) P↔False:=⟨fun ⟨_,e,_⟩=>(by cases e),False.elim⟩
theorem zTy {b:Bool} {x y:Option β}:Wp (br b x y) P↔(b=true->Wp x P)/\(b=false->Wp y P):=by cases b <;> simp [br]
theorem zV0 {b:Bool} {x:Option β}:Wp (gd b x) P↔b=true/\Wp x P:=by cases b <;> simp [gd,zPY]
theorem zV1 {o:Option α} {f:α->Option β}:Wp (bd o f) P↔Wp o fun a=>Wp (f a) P:=by
 cases o with
 | none=>simp [bd,zPY]
 | some a=>simp [bd,zUs]
theorem Wp.mono {o:Option β} (h:Wp o P) (k:∀x,P x->Q x):Wp o Q:=let ⟨x,e,q⟩:=h;⟨x,e,k x q⟩
theorem Wp.if {b:Bool} {x y:Option β} (h1:b=true->Wp x P) (h2:b=false->Wp y P):Wp (br b x y) P:=zTy.2 ⟨h1,h2⟩
theorem Wp.ite {p:Prop} [Decidable p] {x y:Option β} (h1:p->Wp x P) (h2:¬p->Wp y P):Wp (br (decide p) x y) P:=zTy.2 ⟨fun h=>h1 (of_decide_eq_true h),fun h=>h2 (of_decide_eq_false h)⟩
theorem Wp.gd {p:Prop} [Decidable p] {x:Option β} (h1:p) (h2:Wp x P):Wp (gd (decide p) x) P:=zV0.2 ⟨decide_eq_true h1,h2⟩
theorem Wp.bd {o:Option α} {R:α->Prop} {f:α->Option β} (h:Wp o R) (k:∀a,R a->Wp (f a) P):Wp (bd o f) P:=zV1.2 (h.mono k)
theorem zAu {x y:Option β}:br true x y=x:=rfl
theorem zEa {x y:Option β}:br false x y=y:=rfl
end
section
variable {β:Type} {P:β->Prop} {wk:Bool}
theorem zRN:∀n:Nat,Nat.beq n n=true:=fun n=>by simp
end
theorem zN {n:Int} (h1:-9223372036854775808<=n) (h2:n<=9223372036854775807):wrapx .i64 n=n:=by
 cases n with
 | ofNat m=>
  have:Nat.ble m 9223372036854775807=true:=by rw [Nat.ble_eq];rw [Int.ofNat_eq_natCast] at h2;omega
  simp only [wrapx,this,cond]
 | negSucc m=>
  have:Nat.ble m 9223372036854775807=true:=by rw [Nat.ble_eq];omega
  simp only [wrapx,this,cond]
theorem zo {i:Nat} (h:i<9223372036854775807):wrapx .i64 (Int.ofNat i+1)=Int.ofNat (i+1):=zN (by rw [Int.ofNat_eq_natCast];omega) (by rw [Int.ofNat_eq_natCast];omega)
theorem zOW {α:Type} {l:List α} {i:Int} (h0:0<=i) (h:i<Int.ofNat l.length):∃x,ixN l i=some x/\x∈l/\l[i.toNat]? = some x:=by
 obtain ⟨n,rfl⟩:=Int.eq_ofNat_of_zero_le h0;have h:n<l.length:=by simpa using h
 exact ⟨l[n],List.getElem?_eq_getElem h,List.getElem_mem h,List.getElem?_eq_getElem h⟩
section
variable {β:Type} {P:β->Prop} {wk:Bool}
theorem Wp.lt {i l:Nat} {x y:Option β} (h1:i<l->Wp x P) (h2:l<=i->Wp y P):Wp (br (decide (Int.ofNat i<Int.ofNat l)) x y) P:=
 Wp.ite (fun h=>h1 (Int.ofNat_lt.1 h)) fun h=>h2 (Nat.le_of_not_lt fun h'=>h (Int.ofNat_lt.2 h'))
theorem zHi {α:Type} {l:List α} {av:α->AV} {i:Nat} (h:i<l.length):ixN (l.map av) (Int.ofNat i)=some (av l[i]):=by
 show (l.map av)[i]? = _
 rw [List.getElem?_map,List.getElem?_eq_getElem h];rfl
theorem zAW {α:Type} {l:List α} {i:Nat} (h:i<l.length):ixN l (Int.ofNat i)=some l[i]:=List.getElem?_eq_getElem h
theorem zMN {s:List Nat} {i:Nat} (h:i<s.length):ldE (s.map fun b=>AV.int .u8 (.ofNat b)) (Int.toNat (Int.ofNat i)) 0 1 false=some (.int .u8 (.ofNat s[i])):=by
 show (match (s.map fun b=>AV.int .u8 (.ofNat b))[i]? with | some e=>part e.cells 0 1 false | none=>none)=_
 rw [List.getElem?_map,List.getElem?_eq_getElem h];rfl
theorem zJC {i l:Nat} {x:Option β} (h:i<l) (hx:Wp x P):Wp (Go.Sy.gd (decide (0<=Int.ofNat i/\Int.ofNat i<Int.ofNat l)) x) P:=
 Wp.gd ⟨Int.natCast_nonneg _,Int.ofNat_lt.2 h⟩ hx
theorem zOX {α γ:Type} {i:Nat} {s:List α} {f:α->γ} {x:Option β} (h:i<s.length) (hx:Wp x P):Wp (Go.Sy.gd (decide (0<=Int.ofNat i/\Int.ofNat i<Int.ofNat (s.map f).length)) x) P:=by
 rw [List.length_map];exact zJC h hx
end
theorem z0 {n:Nat} (h:n<=9223372036854775807):n<FUEL:=by rw [zIX];omega
theorem zCE {i:Nat} (h0:0<i) (h:i<=9223372036854775807):wrapx .i64 (Int.ofNat i-1)=Int.ofNat (i-1):=by
 rw [zN (by rw [Int.ofNat_eq_natCast];omega) (by rw [Int.ofNat_eq_natCast];omega),Int.ofNat_eq_natCast,Int.ofNat_eq_natCast];omega
end Go.Sy
