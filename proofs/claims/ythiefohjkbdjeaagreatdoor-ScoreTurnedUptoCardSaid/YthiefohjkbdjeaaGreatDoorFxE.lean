/- A LIBRARY: WHAT A FUNCTION'S CODE RECKONS, AS A LEAN FUNCTION, AND THAT ITS WORD IS THE MODEL'S: part 5 of 6. No condition. -/
import Derived.Test.YthiefohjkbdjeaaGreatDoorFxD
set_option linter.unusedVariables false
set_option linter.unusedSimpArgs false
namespace Go.Sy
structure FFn where
 np:Nat
 nt:Nat
 fc:FC
 res:List XR
def FFn.xf (x:FFn):XF:=⟨x.np,x.nt,ef x.fc,x.res⟩
def valF (U:Nat) (G:Cx) (tb:TbF) (th:TbH) (x:FFn) (args:List AV):Option AV:=match Nat.beq args.length x.np with
 | true=>FT U G tb th x.fc (endV x.res) ⟨slots 0 args,[],[],0,0⟩
 | false=>none
def outG (U:Nat) (G:Cx) (tb:TbF) (th:TbH) (x:FFn) (pn:List Nat) (args:List AV) (H:Heap) (V:Vecs):Option (AV×Heap×Vecs):=match Nat.beq args.length x.np&&pinE (slots 0 args) 0 pn&&Nat.beq pn.length H.length with
 | true=>FT U G tb th x.fc (endO x.res pn) ⟨slots 0 args,H,V,H.length,V.length⟩
 | false=>none
section
variable {P:Program} {U:Nat} {G:Cx} {tb:TbF} {th:TbH} {st:Sta}
theorem FnX.enters {P:Program} {f:Nat} {xf:XF} (hx:FnX P f xf):Enters P f:=by
 obtain ⟨fn,hfn,hcf,hname⟩:=hx.ok;unfold zNq at hcf;obtain ⟨body,hbody,hcf⟩:=za hcf;exact ⟨fn,body,hfn,hbody,hname⟩
theorem zUG (s:CPS st):∀(d:Nat) {v v':AV},CP st.mv st.m v->zAn st.H st.V d v=some v'->PP v':=by
 intro d
 induction d with
 | zero=>intro v v' _ h;cases h
 | succ d ih=>
  intro v v' hc h;have al:∀{l l':List AV},(∀e∈l,CP st.mv st.m e)->zo (zAn st.H st.V d) l=some l'->∀e∈l',PP e:=fun hl hm=>by
   obtain ⟨m1,m2⟩:=zAa hm;intro x hx;obtain ⟨i,hi⟩:=List.getElem?_of_mem hx;have hlt:=(List.getElem?_eq_some_iff.1 hi).1;have hv:=List.getElem?_eq_getElem (show i<_ from m1▸hlt)
   exact ih (hl _ (List.mem_of_getElem? hv)) (m2 i _ x hv hi)
  cases hc with
  | sym j hj=>
   simp only [zAn] at h;split at h
   ·rename_i hV;cases h;exact .lst _ _ (s.V _ _ hV).2
   ·cases h
  | agg cs hcs=>
   simp only [zAn] at h;split at h
   ·rename_i hq;cases h;exact .agg _ (al hcs hq)
   ·cases h
  | tup cs hcs=>
   simp only [zAn] at h;split at h
   ·rename_i hq;cases h;exact .tup _ (al hcs hq)
   ·cases h
  | ptr hh off hk=>
   simp only [zAn] at h;split at h
   ·rename_i hg;obtain ⟨_,_,e,hcc⟩:=s.H.get hg;cases e;split at h
    ·rename_i hq;cases h;exact .eptr _ _ (.agg _ (al hcc hq))
    ·cases h
   ·cases h
  | iface t u hu=>
   simp only [zAn] at h;split at h
   ·rename_i hq;cases h;exact .iface _ _ (ih hu hq)
   ·cases h
  | func f a b ha hb=>
   simp only [zAn] at h;split at h
   ·rename_i h1;split at h
    ·rename_i h2;cases h;exact .func _ _ _ (al ha h1) (al hb h2)
    ·cases h
   ·cases h
  | bool b=>cases h;exact .bool _
  | int q m=>cases h;exact .int _ _
  | str s=>cases h;exact .str _
  | nilptr=>cases h;exact .nilptr
  | nilslice=>cases h;exact .nilslice
  | nilmap=>cases h;exact .nilmap
  | nilfunc=>cases h;exact .nilfunc
  | niliface=>cases h;exact .niliface
  | eptr e off hp=>cases h;exact .eptr _ _ hp
  | lst sz es hp=>cases h;exact .lst _ _ hp
  | _=>cases h
theorem zM2 (s:CPS st) {rs:List XR} {vs:List AV} (h:ress st.H st.fr rs=some vs):CP st.mv st.m (zCU vs):=zOP (zP0 s.fr s.H h)
theorem zM3 {res:List XR} {x:Ext} {v:AV} (s:CPS st) (h:endV res x st=some v):PP v/\endP res (fun u=>u=v) x st:=by
 have key:∀{x:Ext},(∀i,x≠.exit i)->(match ress st.H st.fr res with | some vs=>zAn st.H st.V 8 (zCU vs) | none=>none)=some v->PP v/\endP res (fun u=>u=v) x st:=fun {x} hx h=>by
  split at h
  ·rename_i vs hvs;refine ⟨zUG s 8 (zM2 s hvs) h,?_⟩
   unfold endP endW;cases x with
   | exit i=>exact absurd rfl (hx i)
   | normal=>simp only [hvs,h]
   | ret=>simp only [hvs,h]
  ·cases h
 cases x with
 | exit i=>cases h
 | normal=>exact key (fun i e=>by cases e) h
 | ret=>exact key (fun i e=>by cases e) h
theorem zUH {f:Nat} {x:FFn} (hx:FnX P f x.xf) (hok:fcOK x.fc=true) (hG:GPP G) (hm:zAi P G) (hmix:P.follows .mixedOrders=true) (htb:TbW P G (tbS tb)) (hth:∀e∈th,FOK P G e) {args:List AV} {v:AV} (hp:∀a∈args,PP a) (h:valF U G tb th x args=some v):
  Enters P f/\PP v/\∀H nx,FnT P G f args H nx v H nx:=by
 unfold valF at h;split at h
 rotate_left
 ·cases h
 rename_i hlen;have s0:CPS ⟨slots 0 args,[],[],0,0⟩:=⟨zFZ fun a ha=>(hp a ha).cp,fun p hp=>(by cases hp),fun j vi h=>(by cases h),fun p hp=>(by cases hp)⟩
 obtain ⟨y,st',s',hy⟩:=zAD htb hth hG hok s0 h;have hpv:=(zM3 s' hy).1;have hw:=zDm htb hth hG (K:=fun _=>endV x.res) (gs:=[]) (Q:=endP x.res fun u=>u=v) hok s0 h fun y st' s' hy=>(zM3 s' hy).2
 obtain ⟨h1,h2⟩:=zWf hx zE3.symm (by rw [zE4];exact hok) hG hm hmix htb (zEo hth) (zb hlen) hp hw
 exact ⟨h1,hpv,h2⟩
theorem zM4 {n:Nat}:∀{H:Heap},outB n H=true->∀p∈H,∃str cs,p.2=.cells str cs/\∀c∈cs,zQt n c=true
 | [],h,p,hp=>by cases hp
 | (k,o)::H,h,p,hp=>by
  cases o with
  | cells str cs=>
   simp only [outB,Bool.and_eq_true] at h;rcases List.mem_cons.1 hp with rfl | hp
   ·exact ⟨str,cs,rfl,fun c hc=>List.all_eq_true.1 h.1 c hc⟩
   ·exact zM4 h.2 p hp
  | _=>cases h
theorem zM5:∀{V:Vecs},ownB V=true->∀j vi,V.get j=some vi->vi.owns=true
 | [],h,j,vi,e=>by cases e
 | (k,o)::r,h,j,vi,e=>by
  simp only [ownB,Bool.and_eq_true] at h;rw [Vecs.get_cons] at e;split at e
  ·cases e;exact h.1
  ·exact zM5 h.2 j vi e
theorem zI2 {res:List XR} {pn:List Nat} {x:Ext} {v:AV} {H2:Heap} {V2:Vecs} (s:CPS st) (h:endO res pn x st=some (v,H2,V2)):
  PP v/\CPW H2 V2/\H2.keys=List.range' 0 pn.length/\outB V2.length H2=true/\ownB V2=true/\endH res pn (fun u H' V'=>u=v/\H'=H2/\V'=V2) x st:=by
 have key:∀{x:Ext},(∀i,x≠.exit i)->(match ress st.H st.fr res with
   | some vs=>match hasH 8 (zCU vs)||!pinE st.fr 0 pn with
    | false=>zFL (List.range pn.length) (zCL st.H (List.range pn.length) []) [] st fun _ H V=>match outB V.length H&&ownB V with
     | true=>some (zCU vs,H,V)
     | false=>none
    | true=>none
   | none=>none)=some (v,H2,V2)->PP v/\CPW H2 V2/\H2.keys=List.range' 0 pn.length/\outB V2.length H2=true/\ownB V2=true/\endH res pn (fun u H' V'=>u=v/\H'=H2/\V'=V2) x st:=fun {x} hx h=>by
  split at h
  ·rename_i vs hvs;split at h
   ·rename_i hb;obtain ⟨us,H,V,k1,k2,k3,k4,k5,k6,k7,k8⟩:=zF1 s (fun v hv=>by cases hv) h
    split at k1
    ·rename_i hob;simp only [Bool.and_eq_true] at hob;simp only [Option.some.injEq,Prod.mk.injEq] at k1;obtain ⟨rfl,rfl,rfl⟩:=k1;have hb':=hb;simp only [Bool.or_eq_false_iff] at hb;refine ⟨zFK 8 (zM2 s hvs) hb.1,k4,by rw [k7,List.length_range],hob.1,hob.2,?_⟩
     unfold endH endW;cases x with
     | exit i=>exact absurd rfl (hx i)
     | normal=>simp only [hvs,hb'];exact k8 _ ⟨trivial,rfl,rfl⟩
     | ret=>simp only [hvs,hb'];exact k8 _ ⟨trivial,rfl,rfl⟩
    ·cases k1
   ·cases h
  ·cases h
 cases x with
 | exit i=>cases h
 | normal=>exact key (fun i e=>by cases e) h
 | ret=>exact key (fun i e=>by cases e) h
theorem zUI {f:Nat} {x:FFn} {grow:List (Nat×Nat)} {pn:List Nat} (hx:FnX P f x.xf) (hok:fcOK x.fc=true) (hpg:(fcN pn x.fc&&!inpl grow)=true) (hG:GPP G) (hm:zAi P G) (hmix:P.follows .mixedOrders=true) (htb:TbW P G (tbS tb)) (hth:∀e∈th,FOK P G e):FOK P G ⟨f,grow,outG U G tb th x pn⟩:=by
 have start:∀{args:List AV} {H:Heap} {V:Vecs} {v:AV} {H2:Heap} {V2:Vecs},(∀a∈args,CP V.length H.length a)->CPW H V->outG U G tb th x pn args H V=some (v,H2,V2)->args.length=x.np/\pinE (slots 0 args) 0 pn=true/\pn.length=H.length/\CPS ⟨slots 0 args,H,V,H.length,V.length⟩/\FT U G tb th x.fc (endO x.res pn) ⟨slots 0 args,H,V,H.length,V.length⟩=some (v,H2,V2):=fun hc hw h=>by
  unfold outG at h;split at h
  ·rename_i hb;simp only [Bool.and_eq_true] at hb;exact ⟨zb hb.1.1,hb.1.2,zb hb.2,hw.mk' (zFZ hc),h⟩
  ·cases h
 rw [Bool.and_eq_true,Bool.not_eq_true'] at hpg;obtain ⟨hpn,hgr⟩:=hpg;refine ⟨HOK.of hgr hx.enters fun args H V v H2 V2 hpre hv=>?_,fun args H V v H2 V2 hc hw hk hv=>?_⟩
 ·obtain ⟨hc,hw,hk⟩:=hpre;obtain ⟨e1,e2,e3,s0,h⟩:=start hc hw hv;obtain ⟨y,st',s',hy⟩:=zAD htb hth hG hok s0 h;obtain ⟨q1,q2,q3,q4,q5,_⟩:=zI2 s' hy;refine ⟨⟨q1,by rw [q3,hk,e3],fun p hp=>?_,zM5 q5⟩,?_⟩
  ·obtain ⟨str,cs,e,hcs⟩:=zM4 q4 p hp;refine ⟨str,cs,e,fun c hcm=>?_⟩
   have h1:=hcs c hcm;obtain ⟨_,_,e',hcc⟩:=q2.H p hp;rw [e] at e';cases e';unfold zQt at h1;split at h1
   ·rename_i j;exact .inr ⟨j,rfl,by simpa [Nat.blt_eq] using h1⟩
   ·exact .inl (zBJ 12 (hcc c hcm) h1)
  ·have hwt:=zDm htb hth hG (K:=fun _=>endO x.res pn) (gs:=[]) (Q:=endH x.res pn (fun u H' V'=>u=v/\H'=H2/\V'=V2)) hok s0 h fun y st' s' hy=>(zI2 s' hy).2.2.2.2.2
   exact (zVV hx zE3.symm (by rw [zE4];exact hok) hG hm hmix htb (zEo hth) (by rw [zHG];exact hpn) e1 e2 hwt).2
 ·obtain ⟨e1,e2,e3,s0,h⟩:=start hc hw hv;obtain ⟨y,st',s',hy⟩:=zAD htb hth hG hok s0 h;obtain ⟨q1,q2,_⟩:=zI2 s' hy;exact fun j vi hj=>q2.V j vi hj
structure HFun where
 f:Nat
 grow:List (Nat×Nat)
 pn:List Nat
 x:FFn
structure Grp where
 vs:List (Nat×FFn)
 hs:List HFun
abbrev RV:=Nat->List AV->Option AV
abbrev RH:=Nat->List AV->Heap->Vecs->Option (AV×Heap×Vecs)
def tbV (g:List (Nat×FFn)) (r:RV) (tb:TbF):TbF:=match g with
 | []=>tb
 | p::g=>(p.1,r p.1)::tbV g r tb
def tbO (g:List HFun) (r:RH) (th:TbH):TbH:=match g with
 | []=>th
 | p::g=>⟨p.f,p.grow,r p.f⟩::tbO g r th
def zNy (U:Nat) (G:Cx) (tb:TbF) (th:TbH):List (Nat×FFn)->RV
 | [],_=>fun _=>none
 | p::g,f=>match Nat.beq f p.1 with
  | true=>valF U G tb th p.2
  | false=>zNy U G tb th g f
def zNz (U:Nat) (G:Cx) (tb:TbF) (th:TbH):List HFun->RH
 | [],_=>fun _ _ _=>none
 | p::g,f=>match Nat.beq f p.f with
  | true=>outG U G tb th p.x p.pn
  | false=>zNz U G tb th g f
def recG (U:Nat) (G:Cx) (tb:TbF) (th:TbH) (g:Grp):Nat->RV×RH
 | 0=>(fun _ _=>none,fun _ _ _ _=>none)
 | n+1=>(zNy U G (tbV g.vs (recG U G tb th g n).1 tb) (tbO g.hs (recG U G tb th g n).2 th) g.vs,zNz U G (tbV g.vs (recG U G tb th g n).1 tb) (tbO g.hs (recG U G tb th g n).2 th) g.hs)
def gv (U:Nat) (G:Cx) (tb:TbF) (th:TbH) (g:Grp) (n f:Nat):List AV->Option AV:=(recG U G tb th g n).1 f
def go (U:Nat) (G:Cx) (tb:TbF) (th:TbH) (g:Grp) (n f:Nat):List AV->Heap->Vecs->Option (AV×Heap×Vecs):=(recG U G tb th g n).2 f
structure GrpOK (P:Program) (g:Grp):Prop where
 vs:∀p∈g.vs,FnX P p.1 p.2.xf/\fcOK p.2.fc=true
 hs:∀p∈g.hs,FnX P p.f p.x.xf/\fcOK p.x.fc=true/\(fcN p.pn p.x.fc&&!inpl p.grow)=true
theorem zUJ {g:Grp} (hg:GrpOK P g) (hG:GPP G) (hm:zAi P G) (hmix:P.follows .mixedOrders=true) (htb:TbW P G (tbS tb)) (hth:∀e∈th,FOK P G e):∀n,TbW P G (tbS (tbV g.vs (recG U G tb th g n).1 tb))/\∀e∈tbO g.hs (recG U G tb th g n).2 th,FOK P G e:=by
 have mk:∀{r:RV×RH},(∀p∈g.vs,∀args v,(∀a∈args,PP a)->r.1 p.1 args=some v->Enters P p.1/\PP v/\∀H nx,FnT P G p.1 args H nx v H nx)->(∀p∈g.hs,FOK P G ⟨p.f,p.grow,r.2 p.f⟩)->TbW P G (tbS (tbV g.vs r.1 tb))/\∀e∈tbO g.hs r.2 th,FOK P G e:=by
  intro r h1 h2
  constructor
  ·have:∀(l:List (Nat×FFn)),(∀p∈l,p∈g.vs)->TbW P G (tbS (tbV l r.1 tb)):=by
    intro l
    induction l with
    | nil=>intro _;exact htb
    | cons p l ih=>
     intro hl s hs;simp only [tbV,tbS,List.map_cons,List.mem_cons] at hs;rcases hs with rfl | hs
     ·exact fun args v hp hv=>h1 p (hl p (.head _)) args v hp hv
     ·exact ih (fun q hq=>hl q (.tail _ hq)) s hs
   exact this g.vs fun p hp=>hp
  ·have:∀(l:List HFun),(∀p∈l,p∈g.hs)->∀e∈tbO l r.2 th,FOK P G e:=by
    intro l
    induction l with
    | nil=>intro _;exact hth
    | cons p l ih=>
     intro hl e he;simp only [tbO,List.mem_cons] at he;rcases he with rfl | he
     ·exact h2 p (hl p (.head _))
     ·exact ih (fun q hq=>hl q (.tail _ hq)) e he
   exact this g.hs fun p hp=>hp
 intro n
 induction n with
 | zero=>
  refine mk (fun p hp args v _ h=>by cases h) fun p hp=>⟨⟨(hg.hs p hp).1.enters,fun args H V v H2 V2 _ h=>(by cases h)⟩,fun args H V v H2 V2 _ _ _ h=>(by cases h)⟩
 | succ n ih=>
  obtain ⟨i1,i2⟩:=ih;refine mk (fun p hp args v hpp h=>?_) fun p hp=>?_
  ·have:∀(l:List (Nat×FFn)),(∀q∈l,q∈g.vs)->zNy U G (tbV g.vs (recG U G tb th g n).1 tb) (tbO g.hs (recG U G tb th g n).2 th) l p.1 args=some v->Enters P p.1/\PP v/\∀H nx,FnT P G p.1 args H nx v H nx:=by
    intro l
    induction l with
    | nil=>intro _ h;cases h
    | cons q l ihl=>
     intro hl h;rw [zNy] at h;cases e:Nat.beq p.1 q.1 with
     | true=>
      rw [e] at h;have e:=zb e;obtain ⟨a1,a2⟩:=hg.vs q (hl q (.head _));rw [e];exact zUH a1 a2 hG hm hmix i1 i2 hpp h
     | false=>
      rw [e] at h;exact ihl (fun q hq=>hl q (.tail _ hq)) h
   exact this g.vs (fun q hq=>hq) h
  ·have:∀(l:List HFun),(∀q∈l,q∈g.hs)->FOK P G ⟨p.f,p.grow,zNz U G (tbV g.vs (recG U G tb th g n).1 tb) (tbO g.hs (recG U G tb th g n).2 th) l p.f⟩:=by
    intro l
    induction l with
    | nil=>intro _;exact ⟨⟨(hg.hs p hp).1.enters,fun args H V v H2 V2 _ h=>(by cases h)⟩,fun args H V v H2 V2 _ _ _ h=>(by cases h)⟩
    | cons q l ihl=>
     intro hl;rw [zNz];cases e:Nat.beq p.f q.f with
     | true=>
      have e:=zb e;obtain ⟨a1,a2,a3⟩:=hg.hs q (hl q (.head _));rw [e];have a4:=(hg.hs p hp).2.2;rw [Bool.and_eq_true] at a3 a4;exact zUI a1 a2 (by rw [Bool.and_eq_true];exact ⟨a3.1,a4.2⟩) hG hm hmix i1 i2
     | false=>exact ihl fun q hq=>hl q (.tail _ hq)
   exact this g.hs fun q hq=>hq
def addV (U:Nat) (G:Cx) (tb:TbF) (th:TbH) (g:Grp) (n:Nat):TbF:=tbV g.vs (gv U G tb th g n) tb
def addO (U:Nat) (G:Cx) (tb:TbF) (th:TbH) (g:Grp) (n:Nat):TbH:=tbO g.hs (go U G tb th g n) th
structure TabOK (P:Program) (G:Cx) (tb:TbF) (th:TbH):Prop where
 v:TbW P G (tbS tb)
 o:∀e∈th,FOK P G e
theorem TabOK.nil:TabOK P G [] []:=⟨fun s hs=>(by cases hs),fun e he=>(by cases he)⟩
def zCV (P:Program) (G:Cx) (f:Nat) (g:List AV->Option AV):Prop:=∀args v,(∀a∈args,PP a)->g args=some v->Enters P f/\PP v/\∀H nx,FnT P G f args H nx v H nx
theorem TabOK.ext (h:TabOK P G tb th) {f:Nat} {g:List AV->Option AV} (hg:zCV P G f g):TabOK P G ((f,g)::tb) th:=⟨fun s hs=>by
 simp only [tbS,List.map_cons,List.mem_cons] at hs;rcases hs with rfl | hs
 ·exact hg
 ·exact h.v s hs,h.o⟩
theorem TabOK.extO (h:TabOK P G tb th) {e:FEnt} (he:FOK P G e):TabOK P G tb (e::th):=⟨h.v,fun x hx=>by
 rcases List.mem_cons.1 hx with rfl | hx
 ·exact he
 ·exact h.o x hx⟩
theorem GrpOK.nil:GrpOK P ⟨[],[]⟩:=⟨fun p hp=>(by cases hp),fun p hp=>(by cases hp)⟩
theorem GrpOK.consV {f:Nat} {x:FFn} {vs:List (Nat×FFn)} {hs:List HFun} (h1:FnX P f x.xf) (h2:fcOK x.fc=true) (h:GrpOK P ⟨vs,hs⟩):GrpOK P ⟨(f,x)::vs,hs⟩:=⟨fun p hp=>by
 rcases List.mem_cons.1 hp with rfl | hp
 ·exact ⟨h1,h2⟩
 ·exact h.vs p hp,h.hs⟩
theorem GrpOK.consO {x:HFun} {vs:List (Nat×FFn)} {hs:List HFun} (h1:FnX P x.f x.x.xf) (h2:fcOK x.x.fc=true) (h3:(fcN x.pn x.x.fc&&!inpl x.grow)=true) (h:GrpOK P ⟨vs,hs⟩):GrpOK P ⟨vs,x::hs⟩:=⟨h.vs,fun p hp=>by
 rcases List.mem_cons.1 hp with rfl | hp
 ·exact ⟨h1,h2,h3⟩
 ·exact h.hs p hp⟩
theorem TabOK.add (h:TabOK P G tb th) {g:Grp} (hg:GrpOK P g) (hG:GPP G) (hm:zAi P G) (hmix:P.follows .mixedOrders=true) (n:Nat):TabOK P G (addV U G tb th g n) (addO U G tb th g n):=
 let ⟨a,b⟩:=zUJ hg hG hm hmix h.v h.o n
 ⟨a,b⟩
end
end Go.Sy
namespace Go.Sy
def Wp {β:Type} (o:Option β) (P:β->Prop):Prop:=∃x,o=some x/\P x
section
variable {α β:Type} {P Q:β->Prop}
theorem Wp.mk {x:β} (h:P x):Wp (Option.some x) P:=⟨x,rfl,h⟩
theorem zUK:Wp (none:Option β) P↔False:=⟨fun ⟨_,e,_⟩=>(by cases e),False.elim⟩
theorem zTV {b:Bool} {x y:Option β}:Wp (br b x y) P↔(b=true->Wp x P)/\(b=false->Wp y P):=by cases b <;> simp [br]
theorem zWg {b:Bool} {x:Option β}:Wp (gd b x) P↔b=true/\Wp x P:=by cases b <;> simp [gd,zUK]
theorem Wp.mono {o:Option β} (h:Wp o P) (k:∀x,P x->Q x):Wp o Q:=let ⟨x,e,q⟩:=h;⟨x,e,k x q⟩
theorem Wp.if {b:Bool} {x y:Option β} (h1:b=true->Wp x P) (h2:b=false->Wp y P):Wp (br b x y) P:=zTV.2 ⟨h1,h2⟩
theorem Wp.ite {p:Prop} [Decidable p] {x y:Option β} (h1:p->Wp x P) (h2:¬p->Wp y P):Wp (br (decide p) x y) P:=zTV.2 ⟨fun h=>h1 (of_decide_eq_true h),fun h=>h2 (of_decide_eq_false h)⟩
theorem Wp.gd {p:Prop} [Decidable p] {x:Option β} (h1:p) (h2:Wp x P):Wp (gd (decide p) x) P:=zWg.2 ⟨decide_eq_true h1,h2⟩
theorem zFM {x y:Option β}:br true x y=x:=rfl
theorem zCl {x y:Option β}:br false x y=y:=rfl
theorem zHH {a:α} {f:α->Option β}:Go.Sy.bd (Option.some a) f=f a:=rfl
end
section
variable {β:Type} {P:β->Prop} {wk:Bool}
end
theorem zc {n:Int} (h1:-9223372036854775808<=n) (h2:n<=9223372036854775807):wrapx .i64 n=n:=by
 cases n with
 | ofNat m=>
  have:Nat.ble m 9223372036854775807=true:=by rw [Nat.ble_eq];rw [Int.ofNat_eq_natCast] at h2;omega
  simp only [wrapx,this,cond]
 | negSucc m=>
  have:Nat.ble m 9223372036854775807=true:=by rw [Nat.ble_eq];omega
  simp only [wrapx,this,cond]
theorem zp {i:Nat} (h:i<9223372036854775807):wrapx .i64 (Int.ofNat i+1)=Int.ofNat (i+1):=zc (by rw [Int.ofNat_eq_natCast];omega) (by rw [Int.ofNat_eq_natCast];omega)
theorem zOS {α:Type} {l:List α} {i:Int} (h0:0<=i) (h:i<Int.ofNat l.length):∃x,ixN l i=some x/\x∈l/\l[i.toNat]? = some x:=by
 obtain ⟨n,rfl⟩:=Int.eq_ofNat_of_zero_le h0;have h:n<l.length:=by simpa using h
 exact ⟨l[n],List.getElem?_eq_getElem h,List.getElem_mem h,List.getElem?_eq_getElem h⟩
section
variable {β:Type} {P:β->Prop} {wk:Bool}
theorem Wp.lt {i l:Nat} {x y:Option β} (h1:i<l->Wp x P) (h2:l<=i->Wp y P):Wp (br (decide (Int.ofNat i<Int.ofNat l)) x y) P:=
 Wp.ite (fun h=>h1 (Int.ofNat_lt.1 h)) fun h=>h2 (Nat.le_of_not_lt fun h'=>h (Int.ofNat_lt.2 h'))
theorem zJD {α:Type} {l:List α} {av:α->AV} {i:Nat} (h:i<l.length):ixN (l.map av) (Int.ofNat i)=some (av l[i]):=by
 show (l.map av)[i]? = _
 rw [List.getElem?_map,List.getElem?_eq_getElem h];rfl
theorem zC7 {α:Type} {l:List α} {i:Nat} (h:i<l.length):ixN l (Int.ofNat i)=some l[i]:=List.getElem?_eq_getElem h
theorem zLA {s:List Nat} {i:Nat} (h:i<s.length):ldE (s.map fun b=>AV.int .u8 (.ofNat b)) (Int.toNat (Int.ofNat i)) 0 1 false=some (.int .u8 (.ofNat s[i])):=by
 show (match (s.map fun b=>AV.int .u8 (.ofNat b))[i]? with | some e=>part e.cells 0 1 false | none=>none)=_
 rw [List.getElem?_map,List.getElem?_eq_getElem h];rfl
theorem zFC {i l:Nat} {x:Option β} (h:i<l) (hx:Wp x P):Wp (Go.Sy.gd (decide (0<=Int.ofNat i/\Int.ofNat i<Int.ofNat l)) x) P:=
 Wp.gd ⟨Int.natCast_nonneg _,Int.ofNat_lt.2 h⟩ hx
end
theorem zv {n:Nat} (h:n<=9223372036854775807):n<FUEL:=by rw [zG4];omega
theorem zEp {i:Nat} (h0:0<i) (h:i<=9223372036854775807):wrapx .i64 (Int.ofNat i-1)=Int.ofNat (i-1):=by
 rw [zc (by rw [Int.ofNat_eq_natCast];omega) (by rw [Int.ofNat_eq_natCast];omega),Int.ofNat_eq_natCast,Int.ofNat_eq_natCast];omega
end Go.Sy
