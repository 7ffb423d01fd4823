/- A LIBRARY: WHAT A FUNCTION'S CODE RECKONS, AS A LEAN FUNCTION, AND THAT ITS WORD IS THE MODEL'S: part 3 of 6. No condition. -/
import Derived.Test.YtdeeimaahdgeaaaGreatDoorFxB
import Derived.Below
import Derived.Lib.LaidTab
import Derived.Lib.LaidU8
import Derived.Lib.Join
import Derived.Stop.LaidErr
set_option linter.unusedVariables false
set_option linter.unusedSimpArgs false
namespace Go.Sy
open Go.RowKit
section
variable {P:Program} {G:Cx} {E:Env} {w w':World} {H:Heap}
theorem zGW (hr:HR E H w) (hb:Below w.heap.size w w') (a:Nat):HR E H w'/\Tr E H w E H w' a a/\∀{v cv},VR E w v cv->VR E w' v cv:=by
 have hS:Shapes w w':=fun b c e f h=>⟨c,f,(hb.block b (Array.getElem?_eq_some_iff.1 h).1).trans h,rfl⟩
 have hm:∀{v cv},VR E w v cv->VR E w' v cv:=fun hv=>VR.mono (E:=E) (E':=E) (fun _ h=>⟨h,rfl⟩) (fun b h=>⟨h,hb.block b (hr.zlt b h)⟩) hS hv
 exact ⟨⟨hr.nodup,hr.dom,hr.inj,fun p hp=>(hr.obj p hp).mono (hb.block _ (hr.lt hp)) hm,hr.nz,fun b h=>Nat.lt_of_lt_of_le (hr.zlt b h) hb.size⟩,
  ⟨Nat.le_refl _,fun _ _=>rfl,fun h=>⟨.inl,fun h=>h.elim id fun ⟨x,y⟩=>by omega⟩,fun _ h=>h,fun _ h=>.inl h,fun p hp=>.inl ⟨p,hp,rfl⟩,hb.tape,hb.os,hb.output,hb.size,fun x hx _=>hb.block x hx,hS,rfl⟩,hm⟩
theorem zNr {n:String} {g:Nat} {cs:Array Value} (hg:P.globalNamed n=some g) (h:w.var? P n=some cs):∃t f,w.heap[g]? = some (.cells cs t f):=by
 unfold World.var? at h;rw [hg] at h;simp only [Option.bind_some] at h;split at h
 ·rename_i c t f hc;cases h;exact ⟨t,f,hc⟩
 ·cases h
def zPR (k:IntKind) (z:Int):Bool:=decide (k.min<=z)&&decide (z<=k.max)
theorem zLN {l:List (String×DataW Unit)} {W:World} {σ:Nat->Value} (hL:laidMet P l W) {n:String} {zs:List Int} {k:IntKind} (hm:(n,Lib.tabData k zs)∈l) {g:Nat} (hg:P.globalNamed n=some g)
  {t e:TypeId} {len:Nat} (hgt:(P.globals[g]?).map (·.type)=some t) (ht:P.underlying t=some (.array len e)) (he:P.underlying e=some (.int k)) (hce:P.cellsOf e=1) (hct:P.cellsOf t=len)
  (hr:zs.all (zPR k)=true):VR (Env.still W σ) W (.eptr (.agg (zs.map fun z=>.int k z)) 0) (.pointer (some ⟨g,0,none⟩))/\zDt W g (.eptr (.agg (zs.map fun z=>.int k z)) 0):=by
 obtain ⟨g',t',cs,fuel,p,h1,h2,h3,h4⟩:=Lib.laidMet.reads hL hm;rw [hg] at h1;cases h1;rw [hgt] at h2;cases h2;obtain ⟨ty,f,hblk⟩:=zNr hg h3;have hc:=Lib.cells_of_tab ht he hce hct h4;have hlt:g<W.heap.size:=(Array.getElem?_eq_some_iff.1 hblk).1;have:=VR.eptr (E:=Env.still W σ) (w:=W) (.agg (zs.map fun z=>.int k z)) 0 g 0 (.agg cs) rfl hlt ?_ fun j c hj=>?_
 ·exact ⟨by simpa using this,fun cs' n e=>⟨cs,ty,f,hblk,by cases e;rw [←Array.length_toList,hc];simp⟩⟩
 ·refine VR.mk_agg ?_ fun v hv=>?_
  ·rw [hc];refine ⟨by simp,fun i x v hx hv=>?_⟩
   rw [List.getElem?_map] at hx hv;cases hz:zs[i]? with
   | none=>rw [hz] at hx;cases hx
   | some z=>
    rw [hz] at hx hv;cases hx;cases hv;have h5:=List.all_eq_true.1 hr z (List.mem_of_getElem? hz);simp only [zPR,Bool.and_eq_true,decide_eq_true_eq] at h5;exact .int k z h5
  ·rw [hc] at hv;obtain ⟨z,_,rfl⟩:=List.mem_map.1 hv;rfl
 ·have hj':cs[j]? = some c:=hj;simp only [World.cell?,hblk,Nat.zero_add]
  simpa using hj'
end
end Go.Sy
namespace Go.Sy
open Go.RowKit
noncomputable section
variable {P:Program} {G:Cx} {E:Env} {w w':World} {H:Heap}
def zWF:List AV->Heap->Option AV
 | [.str s],_=>match Nat.ble s.length 281474976710656 with
  | true=>some (.str s)
  | false=>none
 | _,_=>none
def z5 (sep:List Nat):List (List Nat)->List Nat
 | []=>[]
 | x::r=>x++(r.map (sep++·)).flatten
theorem zSF (xs:List (List UInt8)) (sep:List UInt8):(Lib.join xs sep).map UInt8.toNat=z5 (sep.map UInt8.toNat) (xs.map (·.map UInt8.toNat)):=by
 cases xs with
 | nil=>rfl
 | cons x r=>
  rw [Lib.join_cons];simp [z5,Lib.joinTail,List.map_flatten,Function.comp_def]
def strs:List AV->Option (List (List Nat))
 | []=>some []
 | .str s::r=>match strs r with
  | some x=>some (s::x)
  | none=>none
 | _::_=>none
theorem zMw:∀{ys:List AV} {vs:List Value} {ls:List (List Nat)},VRs E w ys vs->strs ys=some ls->∃xs:List ByteArray,vs=xs.map .string/\ls=xs.map (fun x=>x.data.toList.map UInt8.toNat)
 | [],vs,ls,hv,h=>by cases h;rw [hv.of_nil];exact ⟨[],rfl,rfl⟩
 | y::r,vs,ls,hv,h=>by
  obtain ⟨c,cr,rfl,hc,hr⟩:=hv.of_cons;unfold strs at h;split at h
  ·rename_i heq;cases heq
  ·rename_i s r' heq;cases heq;split at h
   ·rename_i x hx;cases h;obtain ⟨xs,rfl,rfl⟩:=zMw hr hx;cases hc with
    | str l s' h hl=>exact ⟨s'::xs,rfl,by simp [h]⟩
   ·cases h
  ·cases h
def isSl:AV->Bool
 | .nilslice=>true
 | .lst _ _=>true
 | .row ..=>true
 | _=>false
def zJp:List AV->Heap->Option AV
 | [y,.str sep],H=>match isSl y with
  | false=>none
  | true=>match content H 1 y with
   | none=>none
   | some (n,cs)=>match strs cs with
    | none=>none
    | some xs=>match Nat.ble n 140737488355328&&Nat.ble (z5 sep xs).length 140737488355328 with
     | true=>some (.str (z5 sep xs))
     | false=>none
 | _,_=>none
theorem VR.slice_cap {y:AV} {a:Option Addr} {n c:Nat} (hy:isSl y=true) (h:VR E w y (.slice a n c)):n<=c/\∀ad,a=some ad->n≠0->ad.spot=none:=by
 cases h <;> first | (simp [isSl] at hy;done) | simp_all
theorem zQu {f:FuncId} (h0:∀(a:Option Addr) (c:Nat) (sep:ByteArray) (w:World),Calls P f #[.slice a 0 c,.string sep] w fun e w'=>e=.returned (.string ⟨#[]⟩)/\w'=w)
  (h1:∀(bk o c:Nat) (xs:List ByteArray) (sep:ByteArray) (w:World),(∀(j:Nat) x,xs[j]? = some x->w.cell? ⟨bk,o+j,none⟩=some (.string x))->bk<w.heap.size->xs.length<=140737488355328->xs.length<=c →
   (Lib.join (xs.map (·.data.toList)) sep.data.toList).length<=140737488355328 →
   Calls P f #[.slice (some ⟨bk,o,none⟩) xs.length c,.string sep] w fun e w'=>e=.returned (.string ⟨(Lib.join (xs.map (·.data.toList)) sep.data.toList).toArray⟩)/\Below w.heap.size w w'):
  ∀args H v,zJp args H=some v->∀(E:Env) (w:World) (cargs:Array Value),HR E H w->VRs E w args cargs.toList->Calls P f cargs w fun e w'=>∃cv,e=.returned cv/\Below w.heap.size w w'/\VR E w v cv:=by
 intro args H v h E w cargs hr hv;unfold zJp at h;split at h
 ·rename_i y sep H';split at h
  ·cases h
  ·rename_i hsl;split at h
   ·cases h
   ·rename_i n cs hcont;split at h
    ·cases h
    ·rename_i ls hls;split at h
     ·rename_i hle;cases h;obtain ⟨cy,cr,hc,hy,hrest⟩:=hv.of_cons;obtain ⟨cp,cr',hc',hp,hrest'⟩:=hrest.of_cons;have hcr:=hrest'.of_nil;subst hcr;subst hc';have hca:cargs=#[cy,cp]:=by apply Array.toList_inj.1;simpa using hc
      subst hca;rw [Bool.and_eq_true] at hle;have l1:=Nat.le_of_ble_eq_true hle.1;have l2:=Nat.le_of_ble_eq_true hle.2;obtain ⟨vs,k1,k2,k3,k4,k5,k6,k7⟩:=zCv (P:=P) hr hy hcont;obtain ⟨xs,rfl,rfl⟩:=zMw k1 hls;cases hp with
      | str l sp h hl=>
       subst h;have hj:z5 (sp.data.toList.map UInt8.toNat) (xs.map fun x=>x.data.toList.map UInt8.toNat)=(Lib.join (xs.map (·.data.toList)) sp.data.toList).map UInt8.toNat:=by
        rw [zSF,List.map_map];rfl
       rw [hj] at l2;rw [List.length_map] at l2;have hlen:xs.length=n:=by simpa using k3
       have res:VR E w (.str (z5 (sp.data.toList.map UInt8.toNat) (xs.map fun x=>x.data.toList.map UInt8.toNat))) (.string ⟨(Lib.join (xs.map (·.data.toList)) sp.data.toList).toArray⟩):=
        .str _ _ (by rw [hj]) (by rw [hj,List.length_map];unfold zf;omega)
       rcases k7 with ⟨a,c,rfl,k7⟩ | ⟨s,rfl,_⟩
       ·obtain ⟨hcap,hspot⟩:=VR.slice_cap hsl hy;by_cases hn0:n=0
        ·subst hn0;have hx0:xs=[]:=List.eq_nil_of_length_eq_zero hlen;subst hx0;refine (h0 a c sp w).mono fun e w' ⟨e1,e2⟩=>⟨_,e1,e2▸Below.refl _ _,res⟩
        ·obtain ⟨ad,rfl,hcell⟩:=k7 (by omega)
         have hs:=hspot ad rfl hn0;obtain ⟨bk,o,sp'⟩:=ad;simp only at hs;subst hs;have hcells:∀(j:Nat) x,xs[j]? = some x->w.cell? ⟨bk,o+j,none⟩=some (.string x):=fun j x hx=>by
          have:=hcell j (.string x) (by rw [List.getElem?_map,hx];rfl)
          by_cases hj0:j=0
          ·subst hj0;simpa [Addr.add] using this
          ·simpa [Addr.add,hj0] using this
         have hbk:bk<w.heap.size:=by
          cases xs with
          | nil=>simp at hlen;omega
          | cons x r=>
           have hc0:=hcells 0 x rfl;unfold World.cell? at hc0;split at hc0
           ·rename_i hh;exact (Array.getElem?_eq_some_iff.1 hh).1
           ·cases hc0
         subst hlen;exact (h1 bk o c xs sp w hcells hbk l1 hcap l2).mono fun e w' ⟨e1,e2⟩=>⟨_,e1,e2,res⟩
       ·cases hy <;> simp [isSl] at hsl
     ·cases h
 ·cases h
end
end Go.Sy
namespace Go.Sy
open Go.RowKit
section
variable {P:Program}
theorem zRr {l:List (String×DataW Unit)} {W:World} (hL:laidMet P l W) {n nm:String} {text:List UInt8} {g:Nat} {ti tp te ts:TypeId} {ms:Array (String×TypeId)} {f:Field} (hm:(n,(.iface nm (.ptr (.agg [.lit (.string text)])):DataW Unit))∈l)
  (hg:P.globalNamed n=some g) (ht:(P.globals[g]?).map (·.type)=some ti) (hi:P.underlying ti=some (.interface ms)) (hrow:∀u,P.typeName? 3 u=some nm->u=tp)
  (hp:P.underlying tp=some (.pointer te)) (he:P.underlying te=some (.struct #[f])) (hft:f.type=ts) (hfo:f.offset=0) (hs:P.underlying ts=some .string) (hc:P.cellsOf te=1) (hcs:P.cellsOf ts=1):
  ∃(a:Addr) (s:ByteArray),W.var? P n=some #[.iface tp (.pointer (some a))]/\a.spot=none/\W.cell? a=some (.string s)/\s.data.toList=text/\s.size<=maxLen:=by
 induction l with
 | nil=>cases hm
 | cons x r ih=>
  rcases List.mem_cons.1 hm with e | e
  ·subst e;obtain ⟨a,s,h1,h2,h3,h4⟩:=laid_sentinel hL hg ht hi hrow hp he hft hfo hs hc hcs;refine ⟨a,s,h1,?_,h2,h3,h4⟩
   obtain ⟨ps,⟨g0,t0,cs0,f0,p0,q0,hg0,ht0,hv0,hd0,_,e0⟩,_,hrows⟩:=hL;obtain rfl:=Option.some.inj (hg.symm.trans hg0);subst e0;have hcs0:cs0=#[.iface tp (.pointer (some a))]:=Option.some.inj (hv0.symm.trans h1);subst hcs0;have ok:=(hrows g 0 (by simp [MemPlace.row])).2 tp (.pointer (some a)) (by simpa using World.var?_cell hg0 h1 0)
   unfold Value.okWide at ok;simp only [hp] at ok;unfold Cell.okWide at ok;simp only [Cell.ok,hp] at ok;exact ok.2.1
  ·exact ih hL.tail e
theorem zNs {l:List (String×DataW Unit)} {W:World} {σ:Nat->Value} (hL:laidMet P l W) {n nm:String} {text:List UInt8} {g:Nat} {ti tp te ts:TypeId} {ms:Array (String×TypeId)} {f:Field} (hm:(n,(.iface nm (.ptr (.agg [.lit (.string text)])):DataW Unit))∈l)
  (hg:P.globalNamed n=some g) (ht:(P.globals[g]?).map (·.type)=some ti) (hi:P.underlying ti=some (.interface ms)) (hrow:∀u,P.typeName? 3 u=some nm->u=tp)
  (hp:P.underlying tp=some (.pointer te)) (he:P.underlying te=some (.struct #[f])) (hft:f.type=ts) (hfo:f.offset=0) (hs:P.underlying ts=some .string) (hc:P.cellsOf te=1) (hcs:P.cellsOf ts=1):
  VR (Env.still W σ) W (.eptr (.agg [.iface tp (.eptr (.agg [.str (text.map UInt8.toNat)]) 0)]) 0) (.pointer (some ⟨g,0,none⟩))/\zDt W g (.eptr (.agg [.iface tp (.eptr (.agg [.str (text.map UInt8.toNat)]) 0)]) 0):=by
 obtain ⟨⟨b,o,sp⟩,s,h1,h2,h3,h4,h5⟩:=zRr hL hm hg ht hi hrow hp he hft hfo hs hc hcs;simp only at h2;subst h2;obtain ⟨ty,fz,hblk⟩:=zNr hg h1;have hlt:g<W.heap.size:=(Array.getElem?_eq_some_iff.1 hblk).1;have hb:b<W.heap.size:=by
  unfold World.cell? at h3;split at h3
  ·rename_i hh;exact (Array.getElem?_eq_some_iff.1 hh).1
  ·cases h3
 have inner:VR (Env.still W σ) W (.eptr (.agg [.str (text.map UInt8.toNat)]) 0) (.pointer (some ⟨b,o,none⟩)):=by
  have:=VR.eptr (E:=Env.still W σ) (w:=W) (.agg [.str (text.map UInt8.toNat)]) 0 b o (.agg #[.string s]) rfl hb ?_ fun j c hj=>?_
  ·simpa using this
  ·refine VR.mk_agg (VRs.cons (.str _ s (by rw [h4]) (by rw [List.length_map,←h4,Array.length_toList];unfold maxLen at h5;unfold zf;exact h5)) VRs.nil) fun v hv=>?_
   simp at hv;subst hv;rfl
  ·cases j with
   | zero=>
    have e:c=.string s:=(Option.some.inj hj).symm;rw [e];exact h3
   | succ j=>simp [Value.cells] at hj
 have:=VR.eptr (E:=Env.still W σ) (w:=W) (.agg [.iface tp (.eptr (.agg [.str (text.map UInt8.toNat)]) 0)]) 0 g 0 (.agg #[.iface tp (.pointer (some ⟨b,o,none⟩))]) rfl hlt ?_ fun j c hj=>?_
 ·exact ⟨by simpa using this,fun cs' n e=>⟨_,ty,fz,hblk,by cases e;rfl⟩⟩
 ·refine VR.mk_agg (VRs.cons (.iface _ _ _ inner) VRs.nil) fun v hv=>?_
  simp at hv;subst hv;rfl
 ·cases j with
  | zero=>
   have e:c=.iface tp (.pointer (some ⟨b,o,none⟩)):=(Option.some.inj hj).symm;rw [e];simp [World.cell?,hblk]
  | succ j=>simp [Value.cells] at hj
end
end Go.Sy
namespace Go.Sy
def z9:Nat->AV->Bool
 | 0,_=>false
 | d+1,v=>match v with
  | .bool _ | .int _ _ | .str _ | .nilptr | .nilslice | .nilmap | .nilfunc | .niliface | .sym _=>true
  | .eptr e _=>z9 d e
  | .lst _ es=>es.all (z9 d)
  | .func _ a b=>a.all (z9 d)&&b.all (z9 d)
  | .iface _ v=>z9 d v
  | .agg cs=>cs.all (z9 d)
  | .tup cs=>cs.all (z9 d)
  | _=>false
section
variable {P:Program} {G:Cx} {E E':Env} {w w':World} {H:Heap}
theorem zHf {p:AV->Bool} {l:List AV} (h:l.all p=true) {i:Nat} {x:AV} (hx:l[i]? = some x):p x=true:=
 List.all_eq_true.1 h x (List.mem_of_getElem? hx)
theorem VR.unhold (hZ:∀b,E.Z b->E'.Z b) (hσ:E'.σ=E.σ) {v:AV} {cv:Value} (h:VR E w v cv):∀d,z9 d v=true->VR E' w v cv:=by
 induction h with
 | bool b=>intro d _;exact .bool b
 | int k n h=>intro d _;exact .int k n h
 | str l s h hl=>intro d _;exact .str l s h hl
 | nilptr=>intro d _;exact .nilptr
 | ptr h off hd=>intro d hp;cases d <;> simp [z9] at hp
 | eptr e off b o cv hfl hz _ hc ih=>
  intro d hp;cases d with
  | zero=>simp [z9] at hp
  | succ d=>exact .eptr e off b o cv hfl (hZ b hz) (ih d (by simpa [z9] using hp)) hc
 | nilslice=>intro d _;exact .nilslice
 | lst0 sz a c hc=>intro d _;exact .lst0 sz a c hc
 | lst es b o cap sz f hz hcap hcm hfl _ hc ih=>
  intro d hp;cases d with
  | zero=>simp [z9] at hp
  | succ d=>
   have hp':es.all (z9 d)=true:=hp;exact .lst es b o cap sz f (hZ b hz) hcap hcm hfl (fun i e he=>ih i e he d (zHf hp' he)) hc
 | row h off len sz cp cap ex hd hlen hcap hsz hcp hex hb=>intro d hp;cases d <;> simp [z9] at hp
 | row0 h off sz ex a=>intro d hp;cases d <;> simp [z9] at hp
 | nilmap=>intro d _;exact .nilmap
 | map h hd=>intro d hp;cases d <;> simp [z9] at hp
 | nilfunc=>intro d _;exact .nilfunc
 | func fn f c vf vc hf hc _ _ rf rc=>
  intro d hp;cases d with
  | zero=>simp [z9] at hp
  | succ d=>
   have hp':(f.all (z9 d)&&c.all (z9 d))=true:=hp;rw [Bool.and_eq_true] at hp';exact .func fn f c vf vc hf hc (fun i x v hx hv=>rf i x v hx hv d (zHf hp'.1 hx)) (fun i x v hx hv=>rc i x v hx hv d (zHf hp'.2 hx))
 | niliface=>intro d _;exact .niliface
 | iface t v cv _ ih=>
  intro d hp;cases d with
  | zero=>simp [z9] at hp
  | succ d=>exact .iface t v cv (ih d (by simpa [z9] using hp))
 | agg cs vs hl _ h1 ih=>
  intro d hp;cases d with
  | zero=>simp [z9] at hp
  | succ d=>
   have hp':cs.all (z9 d)=true:=hp;exact .agg cs vs hl (fun i x v hx hv=>ih i x v hx hv d (zHf hp' hx)) h1
 | tup cs vs hl _ ih=>
  intro d hp;cases d with
  | zero=>simp [z9] at hp
  | succ d=>
   have hp':cs.all (z9 d)=true:=hp;exact .tup cs vs hl (fun i x v hx hv=>ih i x v hx hv d (zHf hp' hx))
 | sym i cv he h1=>intro d _;exact .sym i cv (he.trans (congrFun hσ i).symm) h1
def zMx (G:Cx):Prop:=∀g v,G.glob g=some v->z9 20 v=true
theorem zPt {f:FuncId} {args:List AV} {v:AV} {n:Nat} (hG:zMx G) (ha:args.all (z9 40)=true) (hv:z9 40 v=true) (ht:FnT P G f args [] 0 v [] n) (H:Heap) (nx:Nat):FnT P G f args H nx v H nx:=by
 intro E w cargs hr hva hg hfr;have hr0:HR ⟨E.ρ,fun _=>False,E.Z,E.σ⟩ [] w:=⟨.nil,fun p hp=>by simp at hp,fun p hp=>by simp at hp,fun p hp=>by simp at hp,fun p hp=>by simp at hp,hr.zlt⟩
 have hva0:VRs ⟨E.ρ,fun _=>False,E.Z,E.σ⟩ w args cargs.toList:=⟨hva.1,fun i x u hx hu=>VR.unhold (E:=E) (E':=⟨E.ρ,fun _=>False,E.Z,E.σ⟩) (fun _ h=>h) rfl (hva.2 i x u hx hu) 40 (zHf ha hx)⟩
 have hg0:GR G ⟨E.ρ,fun _=>False,E.Z,E.σ⟩ w:=fun g u h=>⟨VR.unhold (E:=E) (E':=⟨E.ρ,fun _=>False,E.Z,E.σ⟩) (fun _ h=>h) rfl (hg g u h).1 20 (hG g u h),(hg g u h).2⟩
 refine (ht _ w cargs hr0 hva0 hg0 fun _ _ _ h=>h).mono fun e w' h=>?_
 obtain ⟨cv,E1,rfl,h1,h2,h3⟩:=h;have hold:∀x,x<w.heap.size->w'.heap[x]? = w.heap[x]?:=fun x hx=>h2.old x hx fun p hp=>by simp at hp
 have hZ:∀x,E1.Z x->E.Z x\/w.heap.size<=x:=fun x hx=>(h2.znew x hx).imp id fun h=>h.elim (fun ⟨p,hp,_⟩=>by simp at hp) id
 have hm:∀{u cu},VR E w u cu->VR ⟨E.ρ,E.D,E1.Z,E.σ⟩ w' u cu:=fun hu=>VR.mono (E:=E) (E':=⟨E.ρ,E.D,E1.Z,E.σ⟩) (fun _ h=>⟨h,rfl⟩) (fun b hb=>⟨h2.zmono b hb,hold b (hr.zlt b hb)⟩) h2.shapes hu rfl
 refine ⟨cv,⟨E.ρ,E.D,E1.Z,E.σ⟩,rfl,⟨hr.nodup,hr.dom,hr.inj,fun p hp=>(hr.obj p hp).mono (hold _ (hr.lt hp)) hm,fun p hp hz=>?_,h1.zlt⟩,
  ⟨Nat.le_refl _,fun _ _=>rfl,fun h=>⟨.inl,fun h=>h.elim id fun ⟨x,y⟩=>by omega⟩,h2.zmono,fun x hx=>(hZ x hx).imp id .inr,fun p hp=>.inl ⟨p,hp,rfl⟩,h2.tape,h2.os,h2.output,h2.size,fun x hx _=>hold x hx,h2.shapes,rfl⟩,?_⟩
 ·rcases hZ _ hz with h | h
  ·exact hr.nz p hp h
  ·have h1:=hr.lt hp;have h2:w.heap.size<=E.ρ p.1:=h;omega
 ·exact VR.unhold (E:=E1) (E':=⟨E.ρ,E.D,E1.Z,E.σ⟩) (fun _ h=>h) h2.sig.symm h3 40 hv
noncomputable section
end
end
end Go.Sy
namespace Go.Sy
section
variable {G:Cx} {call:Call}
def zWG (o:Option AV) (A B:Prop):Prop:=match o with
 | some (.bool true)=>A
 | some (.bool false)=>B
 | _=>False
def zN3 (o:Option AV) (want:Bool) (A B:Prop):Prop:=match o with
 | some (.bool c)=>(c=want->A)/\(c=!want->B)
 | some (.tup [])=>B
 | _=>False
variable {Q Q':Ext->Fr->Heap->Nat->Prop} {fr:Fr} {H:Heap} {nx:Nat}
end
section
variable {P:Program} {G:Cx}
structure FnX (P:Program) (f:Nat) (xf:XF):Prop where
 ok:∃fn,P.funcs[f]? = some fn/\zMg P fn=some xf/\(fn.name == "runtime.NumGoroutine")=false
def zOy (P:Program) (G:Cx) (f:Nat) (g:List AV->Option AV):Prop:=∀args v,g args=some v->Enters P f/\∀H nx,FnT P G f args H nx v H nx
end
theorem zGi:∀(a b:List Nat),seqb a b=decide (a=b)
 | [],[]=>by simp [seqb]
 | [],_::_=>by simp [seqb]
 | _::_,[]=>by simp [seqb]
 | a::x,b::y=>by
  simp only [seqb];by_cases h:a=b
  ·subst h;have:Nat.beq a a=true:=Nat.beq_refl a;simp [this,zGi x y]
  ·have:Nat.beq a b=false:=by
    cases hb:Nat.beq a b with
    | false=>rfl
    | true=>exact absurd (zb hb) h
   simp [this,h]
section
variable {G:Cx} {call:Call} {Q:Ext->Fr->Heap->Nat->Prop} {K:Fr->Heap->Nat->Prop} {fr:Fr} {H:Heap} {nx:Nat}
theorem zNt {n:Nat} {v:AV}:putd fr (some n) v=fr.put n v:=rfl
end
end Go.Sy
namespace Go.Sy
def zGX:Nat->AV->Bool
 | 0,_=>false
 | d+1,v=>match v with
  | .bool _ | .int _ _ | .str _ | .nilptr | .ptr _ _ | .nilslice | .row _ _ _ _ _ _ | .nilmap | .map _ | .nilfunc | .niliface | .sym _=>true
  | .eptr e _=>zGX d e
  | .lst _ es=>es.all (zGX d)
  | .func (.func _) a b=>a.all (zGX d)&&b.all (zGX d)
  | .iface _ v=>zGX d v
  | .agg cs=>cs.all (zGX d)
  | .tup cs=>cs.all (zGX d)
  | _=>false
theorem zD4 (a:List Nat):seqb a a=true:=by rw [zGi];simp
section
variable {G:Cx} {call:Call} {fr:Fr} {H:Heap} {nx:Nat}
theorem zM3 {o:XO} (hk:zI o=0):xoS G call fr H nx o=match xoS G ze fr [] nx o with | some (v,_,n)=>some (v,H,n) | none=>none:=by
 cases o <;> first | (simp [zI] at hk;done) | (simp only [xoS];repeat' split) <;> first | rfl | simp_all
def Calm (call:Call):Prop:=∀f args H nx v H' nx',call f args H nx=some (v,H',nx')->H'=H/\nx'=nx
theorem zKo:∀{ts:List Nat} {t:Nat},fr.get t=none->(only ts fr).get t=none
 | [],t,h=>rfl
 | a::ts,t,h=>by
  simp only [only];split
  ·rename_i v hv;simp only [Fr.get];have:Nat.beq a t=false:=by
    cases hb:Nat.beq a t with
    | false=>rfl
    | true=>rw [zb hb,h] at hv;cases hv
   rw [this];exact zKo h
  ·exact zKo h
theorem zKp:∀{ts:List Nat} {t:Nat} {v:AV},inN t ts=true->fr.get t=some v->(only ts fr).get t=some v
 | [],t,v,h,_=>by cases h
 | a::ts,t,v,h,hv=>by
  simp only [only];by_cases e:t=a
  ·subst e;have hb:Nat.beq t t=true:=Nat.beq_refl t;simp only [hv,Fr.get,hb]
  ·have h1:Nat.beq t a=false:=by
    cases hb:Nat.beq t a with
    | false=>rfl
    | true=>exact absurd (zb hb) e
   have h2:Nat.beq a t=false:=by
    cases hb:Nat.beq a t with
    | false=>rfl
    | true=>exact absurd (zb hb).symm e
   simp only [inN,h1] at h;split
   ·simp only [Fr.get,h2];exact zKp h hv
   ·exact zKp h hv
theorem zPS {ts:List Nat} {t:Nat} (h:inN t ts=true):(only ts fr).get t=fr.get t:=by
 cases hv:fr.get t with
 | none=>exact zKo hv
 | some v=>exact zKp h hv
theorem zT5 {o:XO} {ts:List Nat} (h:(zGV o.opnds).all (fun t=>inN t ts)=true) (call:Call) (H:Heap) (nx:Nat):xo G call (only ts fr) H nx o=xoS G call fr H nx o:=by
 rw [←zFP];refine zOx fun x hx=>?_
 cases x with
 | t n=>exact zPS (List.all_eq_true.1 h n (zDd hx))
 | _=>rfl
end
end Go.Sy
namespace Go.Sy
section
variable {G:Cx} {call:Call} {fr:Fr} {H:Heap} {nx:Nat}
def WM (G:Cx) (call:Call):List XOper->(Fr->Heap->Nat->Prop)->Fr->Heap->Nat->Prop
 | [],K,fr,H,nx=>K fr H nx
 | o::r,K,fr,H,nx=>match o.guard with
  | none=>∃v H' nx',xoS G call fr H nx o.op=some (v,H',nx')/\zGX 40 v=true/\WM G call r K (putd fr o.dst v) H' nx'
  | some (t,b)=>zN3 (fr.get t) b (∃v H' nx',xoS G call fr H nx o.op=some (v,H',nx')/\zGX 40 v=true/\WM G call r K (putd fr o.dst v) H' nx') (WM G call r K (putd fr o.dst (.tup [])) H nx)
def gdIn (g:Option (Nat×Bool)) (l:List Nat):Bool:=match g with
 | none=>true
 | some (t,_)=>inN t l
theorem zQv {o:XO} (hk:zI o=1) {v:AV} {H':Heap} {n:Nat} (h:xoS G call fr H nx o=some (v,H',n)) (m:Nat):xoS G ze fr H m o=some (v,H,m)/\H'=H/\n=nx:=by
 cases o <;> first | (simp [zI] at hk;done) | (simp only [xoS] at h ⊢;repeat' split at h) <;> first | (cases h;done) | (cases h;simp_all)
theorem zFT {fr:Fr} {t:Nat} {b c:Bool} (h:fr.get t=some (.bool c)):wantx fr (some (t,b))=some (c==b):=by
 simp only [wantx,h];cases c <;> cases b <;> rfl
variable {K:Fr->Heap->Nat->Prop}
end
end Go.Sy
namespace Go.Sy
section
variable {G:Cx} {call:Call} {fr:Fr} {H:Heap} {nx:Nat}
def zPT:XO->Bool
 | .call _ _ | .callv _ _=>true
 | _=>false
def WN (G:Cx) (call:Call):List XOper->(Fr->Heap->Nat->Prop)->Fr->Heap->Nat->Prop
 | [],K,fr,H,nx=>K fr H nx
 | o::r,K,fr,H,nx=>match o.guard with
  | none=>∃v H' nx',xoS G call fr H nx o.op=some (v,H',nx')/\WN G call r K (putd fr o.dst v) H' nx'
  | some (t,b)=>zN3 (fr.get t) b (∃v H' nx',xoS G call fr H nx o.op=some (v,H',nx')/\WN G call r K (putd fr o.dst v) H' nx') (WN G call r K (putd fr o.dst (.tup [])) H nx)
def zKq:List XOper->List XD->Bool
 | [],_=>true
 | o::r,d::ds=>(zGV o.op.opnds).all (fun t=>inN t d.looks)&&gdIn o.guard d.looks&&zKq r ds
 | _::_,[]=>false
def zK5 (news:List Nat):XO->Bool
 | .mov (.t b) | .faddr (.t b) _=>!memb b news
 | _=>false
def zQw (news:List Nat):XO->Bool
 | .load (.t b) _ _=>!memb b news
 | _=>false
def zCT (news:List Nat) (o:XOper):List Nat:=match o.dst with
 | none=>news
 | some d=>match zK5 news o.op with
  | true=>news
  | false=>d::news
def seqN:Nat->List Nat->List Nat->List Nat->List Nat->List Nat->List Nat->List XOper->List XD->Bool
 | _,_,_,_,_,_,_,[],_=>true
 | i,als,ws,cs,cur,old,news,o::r,d::ds=>match zPT o.op with
  | true=>(ws++cs).all (fun c=>d.preds.testBit c)&&als.all (fun c=>d.preds.testBit c)&&old.all (fun c=>d.preds.testBit c)&&Nat.blt d.preds (2 ^ i)&&seqN (i+1) als ws (i::cs) cur old (zCT news o) r ds
  | false=>match zI o.op with
   | 0=>seqN (i+1) als ws cs cur old (zCT news o) r ds
   | 1=>match als.all (fun c=>d.preds.testBit c) with
    | true=>ws.all (fun c=>d.preds.testBit c)&&Nat.blt d.preds (2 ^ i)&&seqN (i+1) als ws cs (i::cur) old (zCT news o) r ds
    | false=>zQw news o.op&&(ws.all (fun c=>d.preds.testBit c)&&Nat.blt d.preds (2 ^ i)&&seqN (i+1) als ws cs cur (i::old) (zCT news o) r ds)
   | 2=>seqN (i+1) (i::als) ws cs [] (cur++old) (zCT news o) r ds
   | _=>(ws++cs).all (fun c=>d.preds.testBit c)&&als.all (fun c=>d.preds.testBit c)&&(cur++old).all (fun c=>d.preds.testBit c)&&Nat.blt d.preds (2 ^ i)&&seqN (i+1) als (i::ws) cs [] (cur++old) (zCT news o) r ds
 | _,_,_,_,_,_,_,_::_,[]=>false
theorem zOz {o:XO} (hk:zI o=2) {v:AV} {H':Heap} {n:Nat} (h:xoS G call fr H nx o=some (v,H',n)):∃ob,xoS G ze fr [] nx o=some (v,[(nx,ob)],nx+1)/\H'=(nx,ob)::H/\n=nx+1:=by
 cases o <;> first | (simp [zI] at hk;done) | (simp only [xoS] at h ⊢;repeat' split at h) <;> first | (cases h;done) | (cases h;simp_all)
abbrev DAl:=List (Nat×Nat×HO)
def Fut (n0 i:Nat) (al al':DAl):Prop:=∃new,al'=new++al/\∀x∈new,i<=x.1/\n0<=x.2.1
noncomputable def rdH (G:Cx) (r:DRead) (H:Heap) (nx:Nat):Bool:=match xo G ze r.fr H nx r.op with
 | some (v,_,_)=>eqC v r.v
 | none=>false
def zEA (H:Heap) (al:DAl) (ws:List Nat):List (Nat×Nat)->List (Heap×Nat)->Prop
 | [],(m,inc)::_=>within (fun j=>!inc.testBit j) al++m=H
 | (c,_)::ch,(m,inc)::ms=>within (fun j=>!inc.testBit j) al++m=H/\(c∈ws\/zEA H al ws ch ms)
 | _,[]=>False
theorem zIT {p i j:Nat} (h:p<2 ^ i) (hj:i<=j):p.testBit j=false:=Nat.testBit_lt_two_pow (Nat.lt_of_lt_of_le h (Nat.pow_le_pow_right (by omega) hj))
theorem zJq {n0 i inc p:Nat} {al al':DAl} (hf:Fut n0 i al al') (hp:p<2 ^ i):within (but p inc) al'=within (but p inc) al:=by
 obtain ⟨new,rfl,hn⟩:=hf;rw [zDw,zCL (al:=new),List.nil_append];intro x hx;simp [but,zIT hp (hn x hx).1]
theorem zJr {inc p:Nat} {al:DAl} (h:∀x∈al,p.testBit x.1=true):within (but p inc) al=within (fun j=>!inc.testBit j) al:=
 zCa fun x hx=>by simp [but,h x hx]
theorem zDh {n0 h:Nat} {f:Nat->Bool} {m:Heap} (hh:h<n0):∀{al:DAl},(∀x∈al,n0<=x.2.1)->Heap.get (within f al++m) h=m.get h
 | [],_=>rfl
 | (i,k,o)::r,ha=>by
  have h1:n0<=k:=ha _ (.head _);have ih:=zDh (f:=f) (m:=m) hh (al:=r) fun x hx=>ha x (.tail _ hx)
  simp only [within];split
  ·have:Nat.beq k h=false:=by
    cases e:Nat.beq k h with
    | false=>rfl
    | true=>have:=zb e;omega
   simp only [List.cons_append,Heap.get,this];exact ih
  ·exact ih
theorem zNu {n0:Nat} {al al':DAl} {ws:List Nat} {r:DRead} (ha:∀x∈al,n0<=x.2.1) (ha':∀x∈al',n0<=x.2.1) {H:Heap} (hr:∀H2 nx,(∀h,h<n0->H2.get h=H.get h)->rdH G r H2 nx=true) {nx:Nat}:∀{ch:List (Nat×Nat)} {ms:List (Heap×Nat)},zEA H al ws ch ms →
  (∀c∈ws,r.preds.testBit c=true)->(∀c∈ch,c.2.testBit r.i=false)->zBg G al' nx r ch ms=true
 | [],[],h,_,_=>h.elim
 | [],(m,inc)::ms,h,_,_=>by
  have h:within (fun j=>!inc.testBit j) al++m=H:=h
  have:=hr (within (but r.preds inc) al'++m) nx fun k hk=>by rw [zDh hk ha',←h,zDh hk ha]
  simp only [zBg,zCW];exact this
 | (c,p)::ch,[],h,_,_=>h.elim
 | (c,p)::ch,(m,inc)::ms,h,hw,hc=>by
  obtain ⟨h1,h2⟩:=h;have hra:zCW G al' nx r m inc=true:=by
   have:=hr (within (but r.preds inc) al'++m) nx fun k hk=>by rw [zDh hk ha',←h1,zDh hk ha]
   simp only [zCW];exact this
  simp only [zBg];split
  ·exact hra
  ·rename_i hb;rcases h2 with h2 | h2
   ·rw [hw c h2] at hb;cases hb
   ·simp only [hc _ (.head _),hra];exact zNu ha ha' hr h2 hw fun c' hc'=>hc c' (.tail _ hc')
theorem zMy {n0:Nat} {al al':DAl} {ws:List Nat} {r:DRead} {i:Nat} (hf:Fut n0 i al al') (hp:r.preds<2 ^ i) (hal:∀x∈al,r.preds.testBit x.1=true) (hr:∀nx,rdH G r H nx=true):∀{ch:List (Nat×Nat)} {ms:List (Heap×Nat)},zEA H al ws ch ms →
  (∀c∈ws,r.preds.testBit c=true)->(∀c∈ch,c.2.testBit r.i=false)->zBg G al' nx r ch ms=true
 | [],[],h,_,_=>h.elim
 | [],(m,inc)::ms,h,_,_=>by
  have h:within (fun j=>!inc.testBit j) al++m=H:=h
  have:=hr nx;simp only [zBg,zCW,zJq hf hp,zJr hal,h];exact this
 | (c,p)::ch,[],h,_,_=>h.elim
 | (c,p)::ch,(m,inc)::ms,h,hw,hc=>by
  obtain ⟨h1,h2⟩:=h;have hra:zCW G al' nx r m inc=true:=by
   have:=hr nx;simp only [zCW,zJq hf hp,zJr hal,h1];exact this
  simp only [zBg];split
  ·exact hra
  ·rename_i hb;rcases h2 with h2 | h2
   ·rw [hw c h2] at hb;cases hb
   ·simp only [hc _ (.head _),hra];exact zMy hf hp hal hr h2 hw fun c' hc'=>hc c' (.tail _ hc')
structure SN (n0:Nat) (G:Cx) (H:Heap) (nx:Nat) (fr:Fr) (s:DS) (i:Nat) (als ws cs cur old news:List Nat):Prop where
 far:∀t h o,memb t news=false->fr.get t=some (.ptr h o)->h<n0
 aln:∀x∈s.al,n0<=x.2.1
 nn:n0<=nx
 efr:s.fr=fr
 enx:s.nx=nx
 hal:∀x∈s.al,x.1∈als/\x.1<i
 hch:∀c∈s.ch,(c.1∈ws\/c.1∈cs)/\c.1<i/\c.2<2 ^ c.1
 hms:∃m inc rest,s.ms=(m,inc)::rest
 hinc:∀x∈s.ms,x.2<2 ^ i
 chain:zEA H s.al ws s.ch s.ms
 rd:∀r∈s.rd,r.i<i/\r.preds<2 ^ r.i/\((r.i∈cur/\(∀x∈s.al,r.preds.testBit x.1=true)/\∀nx,rdH G r H nx=true)\/r.i∈old)/\∀nx al',Fut n0 i s.al al'->zBg G al' nx r s.ch s.ms=true
theorem zMz {al:DAl} {ws:List Nat} {ch:List (Nat×Nat)} {m:Heap} {inc:Nat} {rest:List (Heap×Nat)} (h:zEA H al ws ch ((m,inc)::rest)):within (fun j=>!inc.testBit j) al++m=H:=by
 cases ch with
 | nil=>exact h
 | cons c ch=>exact h.1
theorem Fut.step {n0 i:Nat} {al al':DAl} (h:Fut n0 (i+1) al al'):Fut n0 i al al':=let ⟨new,e,hn⟩:=h;⟨new,e,fun x hx=>by have:=hn x hx;omega⟩
theorem zRs {t d:Nat} {l:List Nat} (h:memb t (d::l)=false):t≠d/\memb t l=false:=by
 simp only [memb] at h;split at h
 ·cases h
 ·rename_i e;exact ⟨zAg e,h⟩
theorem zOA {n0:Nat} {news:List Nat} {o:XOper} {v:AV} (far:∀t h o,memb t news=false->fr.get t=some (.ptr h o)->h<n0) (hv:zK5 news o.op=true->∀h k,v=.ptr h k->h<n0):
  ∀t h k,memb t (zCT news o)=false->(putd fr o.dst v).get t=some (.ptr h k)->h<n0:=by
 intro t h k ht hg;unfold zCT at ht;cases hd:o.dst with
 | none=>rw [hd] at ht hg;exact far t h k ht hg
 | some d=>
  rw [hd] at ht hg;have hg:(fr.put d v).get t=some (.ptr h k):=hg;rw [Fr.get_put] at hg;cases ho:zK5 news o.op with
  | true=>
   rw [ho] at ht;split at hg
   ·cases hg;exact hv ho h k rfl
   ·exact far t h k ht hg
  | false=>
   rw [ho] at ht;obtain ⟨h1,h2⟩:=zRs ht;rw [if_neg fun e=>h1 e.symm] at hg
   exact far t h k h2 hg
theorem zT6 {n0:Nat} {news:List Nat} {o:XO} (far:∀t h o,memb t news=false->fr.get t=some (.ptr h o)->h<n0) {v:AV} {H':Heap} {n':Nat} (hx:xoS G call fr H nx o=some (v,H',n')) (ho:zK5 news o=true):∀h k,v=.ptr h k->h<n0:=by
 intro h k e;subst e;cases o <;> try (cases ho;done)
 case mov x=>
  cases x <;> try (cases ho;done)
  rename_i b;have ho:memb b news=false:=by simpa [zK5] using ho
  simp only [xoS] at hx;split at hx
  ·rename_i u hu;cases hx;exact far b h k ho hu
  ·cases hx
 case faddr x off=>
  cases x <;> try (cases ho;done)
  rename_i b;have ho:memb b news=false:=by simpa [zK5] using ho
  simp only [xoS] at hx;split at hx
  ·rename_i h' o' hu;cases hx;exact far b _ _ ho hu
  ·cases hx
  ·cases hx
theorem zVr {n0:Nat} {news:List Nat} {o:XO} (far:∀t h o,memb t news=false->fr.get t=some (.ptr h o)->h<n0) {v:AV} {H':Heap} {n':Nat} (hx:xoS G call fr H nx o=some (v,H',n')) (ho:zQw news o=true) {H2:Heap} (he:∀h,h<n0->H2.get h=H.get h) (nx2:Nat):xoS G ze fr H2 nx2 o=some (v,H2,nx2):=by
 cases o <;> try (cases ho;done)
 case load x sz ag=>
  cases x <;> try (cases ho;done)
  rename_i b;have ho:memb b news=false:=by simpa [zQw] using ho
  simp only [xoS] at hx ⊢;split at hx
  ·rename_i u hu;split at hx
   ·rename_i x hx1;cases hx;have:xload H2 sz ag u=xload H sz ag u:=by
     cases u with
     | ptr h o=>simp only [xload,he h (far b h o ho hu)]
     | _=>rfl
    rw [this,hx1]
   ·cases hx
  ·cases hx
theorem zLO {al:DAl} {ws ws':List Nat} (hw:∀c∈ws,c∈ws'):∀{ch:List (Nat×Nat)} {ms:List (Heap×Nat)},zEA H al ws ch ms->zEA H al ws' ch ms
 | [],[],h=>h.elim
 | [],(m,inc)::_,h=>h
 | (c,p)::ch,[],h=>h.elim
 | (c,p)::ch,(m,inc)::ms,h=>⟨h.1,h.2.imp (hw c) (zLO hw)⟩
theorem zLw {al:DAl} {ws:List Nat} {i hd:Nat} {ob:HO}:∀{ch:List (Nat×Nat)} {ms:List (Heap×Nat)},zEA H al ws ch ms->(∀x∈ms,x.2<2 ^ i)->zEA ((hd,ob)::H) ((i,hd,ob)::al) ws ch ms
 | [],[],h,_=>h.elim
 | [],(m,inc)::_,h,hi=>by
  have h:within (fun j=>!inc.testBit j) al++m=H:=h
  have:=zIT (hi _ (.head _)) (Nat.le_refl i);show within (fun j=>!inc.testBit j) ((i,hd,ob)::al)++m=_
  simp only [within,this,Bool.not_false,List.cons_append,h]
 | (c,p)::ch,[],h,_=>h.elim
 | (c,p)::ch,(m,inc)::ms,h,hi=>by
  have:=zIT (hi _ (.head _)) (Nat.le_refl i);refine ⟨?_,h.2.imp id fun h=>zLw h fun x hx=>hi x (.tail _ hx)⟩
  simp only [within,this,Bool.not_false,List.cons_append,h.1]
theorem zMA {a b i:Nat} (ha:a<2 ^ i) (hb:b<2 ^ i):a ||| b<2 ^ i:=Nat.or_lt_two_pow ha hb
theorem zKr {p i:Nat}:∀{al:DAl},(∀x∈al,x.1<i)->zAy p al<2 ^ i
 | [],_=>Nat.pow_pos (by omega)
 | (j,h,o)::r,hl=>by
  simp only [zAy];split
  ·exact zMA (Nat.pow_lt_pow_right (by omega) (hl _ (.head _))) (zKr fun x hx=>hl x (.tail _ hx))
  ·exact zKr fun x hx=>hl x (.tail _ hx)
theorem zRt {o:XO} (h:zPT o=true):zI o=3:=by cases o <;> first | (cases h;done) | rfl
theorem zD5 (hcalm:Calm call) {n0:Nat}:∀(ops:List XOper) (ds:List XD) (i:Nat) (als ws cs cur old news:List Nat) {K:Fr->Heap->Nat->Prop} {fr:Fr} {H:Heap} {nx:Nat} {s:DS},WN G call ops K fr H nx->zKq ops ds=true->seqN i als ws cs cur old news ops ds=true->SN n0 G H nx fr s i als ws cs cur old news →
  ∃s' i' als' ws' cs' cur' old' news' fr' H' nx',zAz G call i ops ds s=some s'/\SN n0 G H' nx' fr' s' i' als' ws' cs' cur' old' news'/\K fr' H' nx'
 | [],ds,i,als,ws,cs,cur,old,news,K,fr,H,nx,s,hw,_,_,hs=>⟨s,i,als,ws,cs,cur,old,news,fr,H,nx,by cases ds <;> rfl,hs,hw⟩
 | o::r,[],i,als,ws,cs,cur,old,news,K,fr,H,nx,s,hw,hc,_,hs=>by cases hc
 | o::r,d::ds,i,als,ws,cs,cur,old,news,K,fr,H,nx,s,hw,hc,hch,hs=>by
  simp only [zKq,Bool.and_eq_true] at hc;obtain ⟨⟨c1,cg⟩,c3⟩:=hc;have rdmono:∀{cur' old':List Nat},(∀r∈s.rd,r.i∈cur->r.i∈cur'\/r.i∈old')->(∀x∈old,x∈old')->∀r∈s.rd,r.i<i+1/\r.preds<2 ^ r.i/\((r.i∈cur'/\(∀x∈s.al,r.preds.testBit x.1=true)/\∀nx,rdH G r H nx=true)\/r.i∈old')/\∀nx al',Fut n0 (i+1) s.al al'->zBg G al' nx r s.ch s.ms=true:=by
   intro cur' old' h1 h2 r hr;obtain ⟨k1,k2,k3,k4⟩:=hs.rd r hr;refine ⟨by omega,k2,?_,fun nx al' hf=>k4 nx al' hf.step⟩
   rcases k3 with ⟨k5,k6,k7⟩ | k5
   ·rcases h1 r hr k5 with h | h
    ·exact .inl ⟨h,k6,k7⟩
    ·exact .inr h
   ·exact .inr (h2 _ k5)
  have hal1:∀x∈s.al,x.1∈als/\x.1<i+1:=fun x hx=>⟨(hs.hal x hx).1,Nat.lt_succ_of_lt (hs.hal x hx).2⟩
  have hinc1:∀x∈s.ms,x.2<2 ^ (i+1):=fun x hx=>Nat.lt_of_lt_of_le (hs.hinc x hx) (Nat.pow_le_pow_right (by omega) (Nat.le_succ i))
  have hch1:∀{ws' cs':List Nat},(∀x∈ws,x∈ws')->(∀x∈cs,x∈cs')->∀c∈s.ch,(c.1∈ws'\/c.1∈cs')/\c.1<i+1/\c.2<2 ^ c.1:=fun h1 h2 c hc=>by
   obtain ⟨k1,k2,k3⟩:=hs.hch c hc;exact ⟨k1.imp (h1 _) (h2 _),by omega,k3⟩
  have hdo:(∃v H' nx',xoS G call fr H nx o.op=some (v,H',nx')/\WN G call r K (putd fr o.dst v) H' nx')->wantx (only d.looks s.fr) o.guard=some true →
    ∃s' i' als' ws' cs' cur' old' news' fr' H' nx',zAz G call i (o::r) (d::ds) s=some s'/\SN n0 G H' nx' fr' s' i' als' ws' cs' cur' old' news'/\K fr' H' nx':=by
   rintro ⟨v,H',nx',hx,hw2⟩ hwant
   clear hw
   have hxo:∀(call:Call) (H:Heap) (n:Nat),xo G call (only d.looks s.fr) H n o.op=xoS G call fr H n o.op:=fun call H n=>by rw [hs.efr];exact zT5 c1 call H n
   have hfar:=zOA (o:=o) hs.far (zT6 hs.far hx);have hle:nx<=nx':=zQr (fun _ _ _ _ _ _ _ h=>by rw [(hcalm _ _ _ _ _ _ _ h).2];exact Nat.le_refl _) hx
   obtain ⟨m,inc,rest,hms⟩:=hs.hms;have hH:within (fun j=>!inc.testBit j) s.al++m=H:=zMz (hms▸hs.chain)
   have halin:∀{l:List Nat} ,als.all (fun c=>d.preds.testBit c)=true->∀x∈s.al,d.preds.testBit x.1=true:=fun h x hx=>List.all_eq_true.1 h _ (hs.hal x hx).1
   have hmem:als.all (fun c=>d.preds.testBit c)=true->within (but d.preds inc) s.al++m=H:=fun h=>by rw [zJr (halin (l:=[]) h),hH]
   have hchg:∀{ws' cs' cur' old':List Nat},(∃k,zI o.op=k+3)->(ws++cs).all (fun c=>d.preds.testBit c)=true->als.all (fun c=>d.preds.testBit c)=true->d.preds<2 ^ i->seqN (i+1) als ws' cs' cur' old' (zCT news o) r ds=true->(∀x∈ws,x∈ws')->(∀x∈cs,x∈cs')->(i∈ws'\/i∈cs') →
     (i∈ws'\/H'=H) →
     (∀q∈s.rd,((q.i∈cur'/\(∀x∈s.al,q.preds.testBit x.1=true)/\∀nx,rdH G q H' nx=true)\/(q.i∈old'))/\(d.preds.testBit q.i=true\/(∀x∈s.al,q.preds.testBit x.1=true)/\∀nx,rdH G q H' nx=true)) →
     ∃s' i' als' ws' cs' cur' old' news' fr' H' nx',zAz G call i (o::r) (d::ds) s=some s'/\SN n0 G H' nx' fr' s' i' als' ws' cs' cur' old' news'/\K fr' H' nx':=by
    intro ws' cs' cur' old' hk q1 q2 q3 q5 hw1 hc1 hic hHH hrd;obtain ⟨k,hk⟩:=hk;have hall:(s.ch.all fun c=>d.preds.testBit c.1)=true:=by
     rw [List.all_eq_true];intro c hc;refine List.all_eq_true.1 q1 c.1 (List.mem_append.2 ?_)
     exact (hs.hch c hc).1
    have e:zB9 G call i o d s=some { s with fr:=putd s.fr o.dst v,nx:=nx',ms:=(H',inc ||| zAy d.preds s.al)::s.ms,ch:=(i,d.preds)::s.ch,tr:=(i,o.dst,v)::s.tr }:=by
     simp only [zB9,hwant,hk,hms,hall,hmem q2,hxo,hs.enx,hx]
    simp only [zAz,e];have hinc':inc ||| zAy d.preds s.al<2 ^ (i+1):=zMA (hinc1 _ (by rw [hms];exact .head _)) (zKr fun x hx=>(hal1 x hx).2)
    have hnone:∀p:Nat,p<2 ^ i->∀al',Fut n0 (i+1) s.al al'->within (but p (inc ||| zAy d.preds s.al)) al'=[]:=by
     intro p hp al' hf;rw [zJq hf (Nat.lt_of_lt_of_le hp (Nat.pow_le_pow_right (by omega) (Nat.le_succ i)))]
     refine zCL fun x hx=>?_
     have:(zAy d.preds s.al).testBit x.1=true:=zFS.2 ⟨halin (l:=[]) q2 x hx,x,hx,rfl⟩;simp [but,this]
    have hnone':within (fun j=>!(inc ||| zAy d.preds s.al).testBit j) s.al=[]:=by
     refine zCL fun x hx=>?_
     have:(zAy d.preds s.al).testBit x.1=true:=zFS.2 ⟨halin (l:=[]) q2 x hx,x,hx,rfl⟩;simp [this]
    refine zD5 hcalm r ds (i+1) als ws' cs' cur' old' (zCT news o) hw2 c3 q5 ⟨hfar,hs.aln,Nat.le_trans hs.nn hle,by simp only [hs.efr],rfl,hal1,fun c hc=>?_,⟨_,_,_,rfl⟩,fun x hx=>?_,?_,fun q hq=>?_⟩
    ·rcases List.mem_cons.1 hc with rfl | hc
     ·exact ⟨hic,Nat.lt_succ_self i,q3⟩
     ·exact hch1 hw1 hc1 c hc
    ·rcases List.mem_cons.1 hx with rfl | hx
     ·exact hinc'
     ·exact hinc1 x hx
    ·refine ⟨by rw [hnone',List.nil_append],?_⟩
     rcases hHH with h | h
     ·exact .inl h
     ·exact .inr (by rw [h];exact zLO hw1 hs.chain)
    ·obtain ⟨k1,k2,k3,k4⟩:=hs.rd q hq;obtain ⟨k5,k6⟩:=hrd q hq;refine ⟨by omega,k2,k5,fun n al' hf=>?_⟩
     have hbi:q.preds.testBit i=false:=zIT k2 (by omega)
     simp only [zBg,hbi];rcases k6 with k6 | ⟨_,k6⟩
     ·simp only [k6];exact k4 n al' hf.step
     ·cases hb:d.preds.testBit q.i with
      | true=>simp only;exact k4 n al' hf.step
      | false=>
       have hra:zCW G al' n q H' (inc ||| zAy d.preds s.al)=true:=by
        have:=k6 n;simp only [zCW,hnone q.preds (Nat.lt_of_lt_of_le k2 (Nat.pow_le_pow_right (by omega) (by omega))) al' hf,List.nil_append]
        exact this
       simp only [hra];exact k4 n al' hf.step
   simp only [seqN] at hch;split at hch
   ·
    rename_i hcl;simp only [Bool.and_eq_true] at hch;obtain ⟨⟨⟨⟨q1,q2⟩,q3⟩,q4⟩,q5⟩:=hch;have q4:d.preds<2 ^ i:=by simpa [Nat.blt_eq] using q4
    have hcal:H'=H:=by
     cases ho:o.op <;> rw [ho] at hcl hx <;> first | (cases hcl;done) | skip
     ·simp only [xoS] at hx;split at hx
      ·exact (hcalm _ _ _ _ _ _ _ hx).1
      ·cases hx
     ·simp only [xoS] at hx;split at hx
      ·unfold applyf at hx;split at hx
       ·exact (hcalm _ _ _ _ _ _ _ hx).1
       ·cases hx
      ·cases hx
    subst hcal;refine hchg ⟨0,zRt hcl⟩ q1 q2 q4 q5 (fun x h=>h) (fun x h=>.tail _ h) (.inr (.head _)) (.inr rfl) fun q hq=>?_
    obtain ⟨k1,k2,k3,k4⟩:=hs.rd q hq;refine ⟨k3,?_⟩
    rcases k3 with ⟨_,k5,k6⟩ | k5
    ·exact .inr ⟨k5,k6⟩
    ·exact .inl (List.all_eq_true.1 q3 _ k5)
   ·rename_i hncl;by_cases h0:zI o.op=0
    ·simp only [h0] at hch;have h1:=zM3 (G:=G) (call:=call) (fr:=fr) (H:=H) (nx:=nx) h0;have h2:=zM3 (G:=G) (call:=ze) (fr:=fr) (H:=[]) (nx:=nx) h0;rw [hx] at h1;cases hz:xoS G ze fr [] nx o.op with
     | none=>rw [hz] at h1;cases h1
     | some t=>
      obtain ⟨v',H2,n2⟩:=t;rw [hz] at h1 h2;simp only [Option.some.injEq,Prod.mk.injEq] at h1 h2;obtain ⟨rfl,rfl,rfl⟩:=h1;obtain ⟨_,rfl,_⟩:=h2;have hn:nx'=nx:=by
       have:∀{o:XO},zI o=0->∀{v H2 n2},xoS G ze fr [] nx o=some (v,H2,n2)->n2=nx:=fun {o} hk {v H2 n2} h=>by
        cases o <;> first | (simp [zI] at hk;done) | (simp only [xoS] at h;repeat' split at h) <;> first | (cases h;done) | (cases h;rfl)
       exact this h0 hz
      subst hn;have e:zB9 G call i o d s=some { s with fr:=putd s.fr o.dst v,tr:=(i,o.dst,v)::s.tr }:=by
       simp only [zB9,hwant,h0,hxo,hs.enx,hz,Nat.beq_refl]
      simp only [zAz,e];exact zD5 hcalm r ds (i+1) als ws cs cur old (zCT news o) hw2 c3 hch ⟨hfar,hs.aln,hs.nn,by simp only [hs.efr],hs.enx,hal1,hch1 (fun x h=>h) (fun x h=>h),hs.hms,hinc1,hs.chain,rdmono (fun _ _ h=>.inl h) (fun x h=>h)⟩
    ·by_cases h1:zI o.op=1
     ·simp only [h1] at hch;split at hch
      ·rename_i q2;simp only [Bool.and_eq_true] at hch;obtain ⟨⟨q1,q3⟩,q4⟩:=hch;have q3:d.preds<2 ^ i:=by simpa [Nat.blt_eq] using q3
       obtain ⟨k1,rfl,rfl⟩:=zQv h1 hx nx;have e:zB9 G call i o d s=some { s with fr:=putd s.fr o.dst v,rd:=⟨i,o.op,only d.looks s.fr,d.preds,v⟩::s.rd,tr:=(i,o.dst,v)::s.tr }:=by
        simp only [zB9,hwant,h1,hms,hmem q2,hxo,hs.enx,k1]
       have hrdn:∀n,rdH G ⟨i,o.op,only d.looks s.fr,d.preds,v⟩ H' n=true:=fun n=>by
        have h4:=(zQv h1 hx n).1;simp only [rdH,hxo,h4];exact zOh v
       simp only [zAz,e];refine zD5 hcalm r ds (i+1) als ws cs (i::cur) old (zCT news o) hw2 c3 q4 ⟨hfar,hs.aln,hs.nn,by simp only [hs.efr],hs.enx,hal1,hch1 (fun x h=>h) (fun x h=>h),hs.hms,hinc1,hs.chain,fun q hq=>?_⟩
       rcases List.mem_cons.1 hq with rfl | hq
       ·refine ⟨Nat.lt_succ_self i,q3,.inl ⟨.head _,halin (l:=[]) q2,hrdn⟩,fun n al' hf=>?_⟩
        refine zMy hf.step q3 (halin (l:=[]) q2) hrdn hs.chain (fun c hc=>List.all_eq_true.1 q1 c hc) fun c hc=>?_
        obtain ⟨_,g2,g3⟩:=hs.hch c hc;exact zIT g3 (by show c.1<=i;omega)
       ·exact rdmono (fun _ _ h=>.inl (.tail _ h)) (fun x h=>h) q hq
      ·simp only [Bool.and_eq_true] at hch;obtain ⟨q0,⟨q1,q3⟩,q4⟩:=hch;have q3:d.preds<2 ^ i:=by simpa [Nat.blt_eq] using q3
       obtain ⟨k1,rfl,rfl⟩:=zQv h1 hx nx;have hsee:∀(H2:Heap) (n:Nat),(∀h,h<n0->H2.get h=H'.get h)->xoS G ze fr H2 n o.op=some (v,H2,n):=fun H2 n he=>zVr hs.far hx q0 he n
       have e:zB9 G call i o d s=some { s with fr:=putd s.fr o.dst v,rd:=⟨i,o.op,only d.looks s.fr,d.preds,v⟩::s.rd,tr:=(i,o.dst,v)::s.tr }:=by
        have:=hsee (within (but d.preds inc) s.al++m) s.nx fun k hk=>by rw [zDh hk hs.aln,←hH,zDh hk hs.aln]
        simp only [zB9,hwant,h1,hms,hxo,this]
       have hrdn:∀(H2:Heap) (n:Nat),(∀h,h<n0->H2.get h=H'.get h)->rdH G ⟨i,o.op,only d.looks s.fr,d.preds,v⟩ H2 n=true:=fun H2 n he=>by
        simp only [rdH,hxo,hsee H2 n he];exact zOh v
       simp only [zAz,e];refine zD5 hcalm r ds (i+1) als ws cs cur (i::old) (zCT news o) hw2 c3 q4 ⟨hfar,hs.aln,hs.nn,by simp only [hs.efr],hs.enx,hal1,hch1 (fun x h=>h) (fun x h=>h),hs.hms,hinc1,hs.chain,fun q hq=>?_⟩
       rcases List.mem_cons.1 hq with rfl | hq
       ·refine ⟨Nat.lt_succ_self i,q3,.inr (.head _),fun n al' hf=>?_⟩
        refine zNu hs.aln (fun x hx=>?_) hrdn hs.chain (fun c hc=>List.all_eq_true.1 q1 c hc) fun c hc=>?_
        ·obtain ⟨new,rfl,hn⟩:=hf;rcases List.mem_append.1 hx with hx | hx
         ·exact (hn x hx).2
         ·exact hs.aln x hx
        ·obtain ⟨_,g2,g3⟩:=hs.hch c hc;exact zIT g3 (by show c.1<=i;omega)
       ·exact rdmono (fun _ _ h=>.inl h) (fun x h=>.tail _ h) q hq
     ·by_cases h2:zI o.op=2
      ·simp only [h2] at hch;obtain ⟨ob,k1,rfl,rfl⟩:=zOz h2 hx;have e:zB9 G call i o d s=some { s with fr:=putd s.fr o.dst v,nx:=nx+1,al:=(i,nx,ob)::s.al,tr:=(i,o.dst,v)::s.tr }:=by
        simp only [zB9,hwant,h2,hxo,hs.enx,k1,Nat.beq_refl]
       simp only [zAz,e];refine zD5 hcalm r ds (i+1) (i::als) ws cs [] (cur++old) (zCT news o) hw2 c3 hch ⟨hfar,fun x hx=>?_,Nat.le_succ_of_le hs.nn,by simp only [hs.efr],rfl,fun x hx=>?_,hch1 (fun x h=>h) (fun x h=>h),hs.hms,hinc1,zLw hs.chain hs.hinc,fun q hq=>?_⟩
       ·rcases List.mem_cons.1 hx with rfl | hx
        ·exact hs.nn
        ·exact hs.aln x hx
       ·rcases List.mem_cons.1 hx with rfl | hx
        ·exact ⟨.head _,Nat.lt_succ_self i⟩
        ·exact ⟨.tail _ (hal1 x hx).1,(hal1 x hx).2⟩
       ·obtain ⟨g1,g2,g3,g4⟩:=hs.rd q hq;refine ⟨by omega,g2,.inr ?_,fun n al' hf=>g4 n al' ?_⟩
        ·rcases g3 with ⟨g5,_⟩ | g5
         ·exact List.mem_append.2 (.inl g5)
         ·exact List.mem_append.2 (.inr g5)
        ·obtain ⟨new,rfl,hn⟩:=hf;refine ⟨new++[(i,nx,ob)],by simp,fun x hx=>?_⟩
         rcases List.mem_append.1 hx with hx | hx
         ·have:=hn x hx;omega
         ·simp only [List.mem_singleton] at hx;subst hx;exact ⟨Nat.le_refl _,hs.nn⟩
      ·have h3:∃k,zI o.op=k+3:=⟨zI o.op-3,by omega⟩
       obtain ⟨k,h3⟩:=h3;simp only [h3,Bool.and_eq_true] at hch;obtain ⟨⟨⟨⟨q1,q2⟩,q3⟩,q4⟩,q5⟩:=hch;have q4:d.preds<2 ^ i:=by simpa [Nat.blt_eq] using q4
       refine hchg ⟨k,h3⟩ q1 q2 q4 q5 (fun x h=>.tail _ h) (fun x h=>h) (.inl (.head _)) (.inl (.head _)) fun q hq=>?_
       obtain ⟨g1,g2,g3,g4⟩:=hs.rd q hq;have hin:q.i∈cur++old:=by
        rcases g3 with ⟨g5,_⟩ | g5
        ·exact List.mem_append.2 (.inl g5)
        ·exact List.mem_append.2 (.inr g5)
       exact ⟨.inr hin,.inl (List.all_eq_true.1 q3 _ hin)⟩
  have hskip:WN G call r K (putd fr o.dst (.tup [])) H nx->wantx (only d.looks s.fr) o.guard=some false →
    ∃s' i' als' ws' cs' cur' old' news' fr' H' nx',zAz G call i (o::r) (d::ds) s=some s'/\SN n0 G H' nx' fr' s' i' als' ws' cs' cur' old' news'/\K fr' H' nx':=by
   intro hw hwant;have e:zB9 G call i o d s=some { s with fr:=putd s.fr o.dst (.tup []),tr:=(i,o.dst,.tup [])::s.tr }:=by
    simp only [zB9,hwant]
   simp only [zAz,e];have base:∀{als' ws' cs' cur' old':List Nat},seqN (i+1) als' ws' cs' cur' old' (zCT news o) r ds=true->(∀x∈als,x∈als')->(∀x∈ws,x∈ws')->(∀x∈cs,x∈cs')->(∀x∈cur,x∈cur'\/x∈old')->(∀x∈old,x∈old') →
     ∃s' i' als' ws' cs' cur' old' news' fr' H' nx',zAz G call (i+1) r ds { s with fr:=putd s.fr o.dst (.tup []),tr:=(i,o.dst,.tup [])::s.tr }=some s'/\SN n0 G H' nx' fr' s' i' als' ws' cs' cur' old' news'/\K fr' H' nx':=by
    intro als' ws' cs' cur' old' hq h1 h2 h3 h4 h5;exact zD5 hcalm r ds (i+1) als' ws' cs' cur' old' (zCT news o) hw c3 hq ⟨zOA hs.far (fun _ h k e=>by cases e),hs.aln,hs.nn,by simp only [hs.efr],hs.enx,fun x hx=>⟨h1 _ (hal1 x hx).1,(hal1 x hx).2⟩,hch1 h2 h3,hs.hms,hinc1,zLO h2 hs.chain,rdmono (fun q _ hq=>h4 _ hq) h5⟩
   simp only [seqN] at hch;split at hch
   ·simp only [Bool.and_eq_true] at hch;exact base hch.2 (fun x h=>h) (fun x h=>h) (fun x h=>.tail _ h) (fun x h=>.inl h) (fun x h=>h)
   ·split at hch
    ·exact base hch (fun x h=>h) (fun x h=>h) (fun x h=>h) (fun x h=>.inl h) (fun x h=>h)
    ·split at hch
     ·simp only [Bool.and_eq_true] at hch;exact base hch.2 (fun x h=>h) (fun x h=>h) (fun x h=>h) (fun x h=>.inl (.tail _ h)) (fun x h=>h)
     ·simp only [Bool.and_eq_true] at hch;exact base hch.2.2 (fun x h=>h) (fun x h=>h) (fun x h=>h) (fun x h=>.inl h) (fun x h=>.tail _ h)
    ·exact base hch (fun x h=>.tail _ h) (fun x h=>h) (fun x h=>h) (fun x h=>.inr (List.mem_append.2 (.inl h))) (fun x h=>List.mem_append.2 (.inr h))
    ·simp only [Bool.and_eq_true] at hch;exact base hch.2 (fun x h=>h) (fun x h=>.tail _ h) (fun x h=>h) (fun x h=>.inr (List.mem_append.2 (.inl h))) (fun x h=>List.mem_append.2 (.inr h))
  unfold WN at hw;cases hg:o.guard with
  | none=>
   rw [hg] at hw;exact hdo hw (by rw [hg];rfl)
  | some tb=>
   obtain ⟨t,b⟩:=tb;rw [hg] at hw cg;have hget:(only d.looks s.fr).get t=fr.get t:=by rw [hs.efr];exact zPS cg
   simp only [zN3] at hw;split at hw
   ·rename_i c hc;obtain ⟨w1,w2⟩:=hw;have hwt:=zFT (b:=b) (hget.trans hc);rw [←hg] at hwt;by_cases hcb:c=b
    ·exact hdo (w1 hcb) (by rw [hwt,hcb];simp)
    ·have hcb':c=!b:=by cases c <;> cases b <;> simp_all
     exact hskip (w2 hcb') (by rw [hwt,hcb'];simp)
   ·rename_i hc;exact hskip hw (by rw [hg];simp only [wantx,hget,hc])
   ·exact hw.elim
theorem zRu (hcalm:Calm call) {ops:List XOper} {ds:List XD} {K:Fr->Heap->Nat->Prop} (hfr:∀t h o,fr.get t=some (.ptr h o)->h<nx) (hc:zKq ops ds=true) (hch:seqN 0 [] [] [] [] [] [] ops ds=true) (h:WN G call ops K fr H nx):∃fr' H' nx',zK0 G call ops ds (fr,H,nx)=some (fr',H',nx')/\K fr' H' nx':=by
 obtain ⟨s,i,als,ws,cs,cur,old,news,fr',H',nx',h1,h2,h3⟩:=zD5 hcalm (n0:=nx) ops ds 0 [] [] [] [] [] [] (s:=⟨fr,nx,[(H,0)],[],[],[],[]⟩) h hc hch ⟨fun t h o _ hg=>hfr t h o hg,fun x hx=>(by cases hx),Nat.le_refl _,rfl,rfl,fun x hx=>(by cases hx),fun c hc=>(by cases hc),⟨_,_,_,rfl⟩,fun x hx=>(by simp only [List.mem_singleton] at hx;subst hx;exact Nat.one_pos),rfl,fun r hr=>(by cases hr)⟩
 obtain ⟨m,inc,rest,hms⟩:=h2.hms;refine ⟨fr',H',nx',?_,h3⟩
 have hrd:(s.rd.all fun r=>zBg G s.al s.nx r s.ch s.ms)=true:=by
  rw [List.all_eq_true];intro r hr;exact (h2.rd r hr).2.2.2 _ _ ⟨[],rfl,fun x hx=>by cases hx⟩
 have hH:within (fun j=>!inc.testBit j) s.al++m=H':=zMz (hms▸h2.chain)
 rw [hms] at hrd;simp only [zK0,h1,hms,hrd,hH];rw [h2.efr,h2.enx]
end
end Go.Sy
namespace Go.Sy
def z7:Nat->AV->Bool
 | 0,_=>false
 | d+1,v=>match v with
  | .bool _ | .int _ _ | .str _ | .nilptr | .nilslice | .nilmap | .nilfunc | .niliface=>true
  | .eptr e _=>z7 d e
  | .lst _ es=>es.all (z7 d)
  | .func _ a b=>a.all (z7 d)&&b.all (z7 d)
  | .iface _ v=>z7 d v
  | .agg cs=>cs.all (z7 d)
  | .tup cs=>cs.all (z7 d)
  | _=>false
def ppS:Nat->AV->Bool
 | 0,_=>false
 | d+1,v=>match v with
  | .bool _ | .int _ _ | .str _ | .nilptr | .nilslice | .nilmap | .nilfunc | .niliface | .lst _ _ | .eptr _ _=>true
  | .func _ a b=>a.all (ppS d)&&b.all (ppS d)
  | .iface _ v=>ppS d v
  | .agg cs=>cs.all (ppS d)
  | .tup cs=>cs.all (ppS d)
  | _=>false
inductive K where
 | b
 | i (k:IntKind)
 | s
 | l (sz:Nat)
 | c (v:AV)
 | agg (n:Nat)
 | tup (n:Nat)
 | ep (off:Nat)
 | ifc (t:Nat)
 | av
inductive VI where
 | vec (sz:Nat) (es:List AV)
 | mp (es:List (AV×AV))
 | vptr (j i off:Nat)
abbrev Vecs:=List (Nat×VI)
def Vecs.get:Vecs->Nat->Option VI
 | [],_=>none
 | (k,o)::r,h=>match Nat.beq k h with
  | true=>some o
  | false=>Vecs.get r h
def Vecs.del:Vecs->Nat->Vecs
 | [],_=>[]
 | (k,o)::r,h=>match Nat.beq k h with
  | true=>Vecs.del r h
  | false=>(k,o)::Vecs.del r h
inductive WK:AV->AV->Prop where
 | refl (v:AV):WK v v
 | nil (sz:Nat):WK .nilslice (.lst sz [])
 | eptr {e e':AV} (off:Nat) (h:WK e e'):WK (.eptr e off) (.eptr e' off)
 | iface (t:Nat) {v v':AV} (h:WK v v'):WK (.iface t v) (.iface t v')
 | agg {cs cs':List AV} (hl:cs.length=cs'.length) (h:∀(i:Nat) c c',cs[i]? = some c->cs'[i]? = some c'->WK c c'):WK (.agg cs) (.agg cs')
 | tup {cs cs':List AV} (hl:cs.length=cs'.length) (h:∀(i:Nat) c c',cs[i]? = some c->cs'[i]? = some c'->WK c c'):WK (.tup cs) (.tup cs')
def Br (b:Bool) (A B:Prop):Prop:=match b with
 | true=>A
 | false=>B
def ixN {α:Type} (l:List α):Int->Option α
 | .ofNat n=>l[n]?
 | .negSucc _=>none
structure Sta where
 fr:Fr
 H:Heap
 V:Vecs
 m:Nat
 mv:Nat
def Sta.put (st:Sta) (d:Option Nat) (v:AV):Sta:=⟨putd st.fr d v,st.H,st.V,st.m,st.mv⟩
abbrev TblS:=List (Nat×(List AV->Prop)×(List AV->Option AV))
def zEB:TblS->Nat->List AV->(AV->Prop)->Prop
 | [],_,_,_=>False
 | s::r,f,args,k=>match Nat.beq f s.1 with
  | true=>s.2.1 args/\match s.2.2 args with
   | some v=>k v
   | none=>False
  | false=>zEB r f args k
def zAM:Nat->AV->Bool
 | 0,_=>false
 | d+1,v=>match v with
  | .bool _ | .int _ _ | .str _ | .nilptr | .nilslice | .nilmap | .nilfunc | .niliface=>true
  | .iface _ v=>zAM d v
  | .agg cs=>cs.all (zAM d)
  | .tup cs=>cs.all (zAM d)
  | _=>false
def zp (f:AV->Option AV):List AV->Option (List AV)
 | []=>some []
 | v::r=>match f v with
  | some v=>match zp f r with
   | some r=>some (v::r)
   | none=>none
  | none=>none
def hasH:Nat->AV->Bool
 | 0,_=>true
 | d+1,v=>match v with
  | .sym _ | .ptr _ _ | .row _ _ _ _ _ _ | .map _=>true
  | .func _ a b=>a.any (hasH d)||b.any (hasH d)
  | .iface _ v=>hasH d v
  | .agg cs | .tup cs=>cs.any (hasH d)
  | _=>false
def zCZ (sz len:Nat) (cs:List AV):Option (List AV):=
 match Nat.ble (len*sz) cs.length&&Nat.blt 0 sz&&cs.all AV.one with
 | true=>some (chunks sz len cs)
 | false=>none
def frz (H:Heap) (V:Vecs):Nat->AV->Option AV
 | 0,_=>none
 | d+1,v=>match v with
  | .sym j=>match V.get j with
   | some (.vec sz es)=>some (.lst sz es)
   | _=>none
  | .ptr h off=>match H.get h with
   | some (.cells _ cs)=>match zp (frz H V d) cs with
    | some cs=>some (.eptr (.agg cs) off)
    | none=>none
   | _=>none
  | .func f a b=>match zp (frz H V d) a with
   | some a=>match zp (frz H V d) b with
    | some b=>some (.func f a b)
    | none=>none
   | none=>none
  | .agg cs=>match zp (frz H V d) cs with
   | some cs=>some (.agg cs)
   | none=>none
  | .row h off len sz _ _=>match H.get h with
   | some (.cells _ cs)=>match Nat.ble (off+len*sz) cs.length with
    | true=>match zCZ sz len (cs.drop off) with
     | some es=>match es.all (ppS 8) with
      | true=>some (.lst sz es)
      | false=>none
     | none=>none
    | false=>none
   | _=>none
  | v=>match hasH d v with
   | true=>none
   | false=>some v
def wcall (tb:TblS) (f:Nat) (args:List AV) (st:Sta) (k:AV->Sta->Prop):Prop:=
 match args.any (hasH 8) with
 | false=>zEB tb f args fun v=>k v st
 | true=>match zp (frz st.H st.V 8) args with
  | some args=>zEB tb f args fun v=>match zAM 8 v with
   | true=>k v st
   | false=>False
  | none=>False
def zGz (n:Int) (lo hi:Option AV) (k:Int->Int->Prop):Prop:=
 match lo with
 | none=>match hi with
  | none=>k 0 n
  | some (.int _ h)=>(0<=h/\h<=n)/\k 0 h
  | _=>False
 | some (.int _ l)=>match hi with
  | none=>(0<=l/\l<=n)/\k l n
  | some (.int _ h)=>(0<=l/\l<=h/\h<=n)/\k l h
  | _=>False
 | _=>False
def eqv:List Kd->List AV->List AV->Option Bool
 | [],[],[]=>some true
 | k::ks,a::x,b::y=>match eqb k a b with
  | some p=>match ks with
   | []=>match x,y with
    | [],[]=>some p
    | _,_=>none
   | _=>match eqv ks x y with
    | some q=>some (p&&q)
    | none=>none
  | none=>none
 | _,_,_=>none
def zBj (H:Heap) (sz:Nat):AV->Option (List AV)
 | .nilslice=>some []
 | .lst sz' es=>match Nat.beq sz sz' with
  | true=>some es
  | false=>none
 | .row h off len sz' _ _=>match Nat.beq sz sz' with
  | true=>match H.get h with
   | some (.cells _ cs)=>match Nat.ble (off+len*sz) cs.length with
    | true=>zCZ sz len (cs.drop off)
    | false=>none
   | _=>none
  | false=>none
 | .str s=>match Nat.beq sz 1 with
  | true=>some (s.map fun b=>.int .u8 (.ofNat b))
  | false=>none
 | _=>none
def ldE (es:List AV) (i off sz:Nat) (ag:Bool):Option AV:=match es[i]? with
 | some e=>part e.cells off sz ag
 | none=>none
def lkV (ok b:Bool) (u:AV):AV:=match ok with
 | true=>.tup [u,.bool b]
 | false=>u
def lkR (ok:Bool) (z:AV):Option (Option AV)->Option AV
 | some (some u)=>some (lkV ok true u)
 | some none=>some (lkV ok false z)
 | none=>none
def zK6:AV->Bool
 | .lst _ _=>true
 | _=>false
def zKs:XV->Bool
 | .c (.lst _ _)=>true
 | _=>false
def WXd (st:Sta) (x:Option Out) (k:AV->Sta->Prop):Prop:=match x with
 | some (v,H,m)=>k v ⟨st.fr,H,st.V,m,st.mv⟩
 | none=>False
def zFU (n:Int):Nat->(Nat->Prop)->Prop
 | 0,_=>True
 | m+1,k=>zFU n m k/\(n=.ofNat m->k m)
def wop (G:Cx) (tb:TblS) (st:Sta) (o:XO) (ks:List K) (k:AV->Sta->Prop):Prop:=
 match o with
 | .bin op x y=>match x.ev G st.fr with
  | some (.str a)=>match op with
   | .add=>match y.ev G st.fr with
    | some (.str b)=>(a.length+b.length<=zf)/\k (.str (a++b)) st
    | _=>False
   | op=>WXd st (xoS G ze st.fr st.H st.m (.bin op x y)) k
  | some (.int k1 a)=>match op with
   | .quo=>match y.ev G st.fr with
    | some (.int k2 b)=>match ksame k1 k2 with
     | true=>(b≠0)/\k (.int k1 (wrapx k1 (a.tdiv b))) st
     | false=>False
    | _=>False
   | .rem=>match y.ev G st.fr with
    | some (.int k2 b)=>match ksame k1 k2 with
     | true=>(b≠0)/\k (.int k1 (a.tmod b)) st
     | false=>False
    | _=>False
   | .shl=>match y.ev G st.fr with
    | some (.int _ b)=>(0<=b)/\k (.int k1 (wrapx k1 (a*2 ^ (Min.min b.toNat k1.bits)))) st
    | _=>False
   | .shr=>match y.ev G st.fr with
    | some (.int _ b)=>(0<=b)/\k (.int k1 (a.fdiv (2 ^ (Min.min b.toNat k1.bits)))) st
    | _=>False
   | op=>WXd st (xoS G ze st.fr st.H st.m (.bin op x y)) k
  | _=>False
 | .aeq neg kd x y=>match x.ev G st.fr with
  | some (.agg a)=>match y.ev G st.fr with
   | some (.agg b)=>match eqv kd a b with
    | some r=>k (bneg neg r) st
    | none=>False
   | _=>False
  | _=>False
 | .pick c a b=>match c.ev G st.fr with
  | some (.bool cb)=>match c with
   | .t n=>Br cb (match a.ev G st.fr with
     | some v=>k v ⟨st.fr.put n (.bool true),st.H,st.V,st.m,st.mv⟩
     | none=>False) (match b.ev G st.fr with
     | some v=>k v ⟨st.fr.put n (.bool false),st.H,st.V,st.m,st.mv⟩
     | none=>False)
   | _=>WXd st (xoS G ze st.fr st.H st.m (.pick c a b)) k
  | _=>False
 | .idxS x i=>match x.ev G st.fr with
  | some (.str s)=>match i.ev G st.fr with
   | some (.int _ n)=>∃c,ixN s n=some c/\k (.int .u8 (.ofNat c)) st
   | _=>False
  | _=>False
 | .slcS x lo hi=>match x.ev G st.fr with
  | some (.str s)=>match evo G st.fr lo with
   | some lo=>match evo G st.fr hi with
    | some hi=>zGz (.ofNat s.length) lo hi fun l h=>k (.str ((s.take h.toNat).drop l.toNat)) st
    | none=>False
   | none=>False
  | _=>False
 | .slcL x lo hi mx sz=>match x.ev G st.fr with
  | some (.lst sz' es)=>match Nat.beq sz sz' with
   | true=>match mx with
    | none=>match evo G st.fr lo with
     | some lo=>match evo G st.fr hi with
      | some hi=>zGz (.ofNat es.length) lo hi fun l h=>k (.lst sz ((es.take h.toNat).drop l.toNat)) st
      | none=>False
     | none=>False
    | some _=>False
   | false=>False
  | some .nilslice=>WXd st (xoS G ze st.fr st.H st.m (.slcL x lo hi mx sz)) k
  | _=>False
 | .iaddrS x i sz=>match x.ev G st.fr with
  | some (.lst sz' es)=>match Nat.beq sz sz' with
   | true=>match i.ev G st.fr with
    | some (.int _ n)=>∃v,ixN es n=some v/\k (.eptr v 0) st
    | _=>False
   | false=>False
  | some (.sym j)=>match st.V.get j with
   | some (.vec sz' es)=>match Nat.beq sz sz' with
    | true=>match i.ev G st.fr with
     | some (.int _ n)=>(0<=n/\n<.ofNat es.length)/\k (.sym st.mv) ⟨st.fr,st.H,(st.mv,.vptr j n.toNat 0)::st.V,st.m,st.mv+1⟩
     | _=>False
    | false=>False
   | _=>False
  | some (.row _ _ l _ _ _)=>match i.ev G st.fr with
   | some (.int kd n)=>(0<=n/\n<.ofNat l)/\zFU n l fun m=>WXd st (xoS G ze st.fr st.H st.m (.iaddrS x (.c (.int kd (.ofNat m))) sz)) k
   | _=>False
  | _=>False
 | .lenL x=>match x.ev G st.fr with
  | some (.sym j)=>match st.V.get j with
   | some (.vec _ es)=>k (.int .i64 (.ofNat es.length)) st
   | _=>False
  | _=>WXd st (xoS G ze st.fr st.H st.m (.lenL x)) k
 | .load x sz ag=>match x.ev G st.fr with
  | some (.sym p)=>match st.V.get p with
   | some (.vptr j i off)=>match st.V.get j with
    | some (.vec _ es)=>∃v,ldE es i off sz ag=some v/\k v st
    | _=>False
   | _=>False
  | _=>WXd st (xoS G ze st.fr st.H st.m (.load x sz ag)) k
 | .faddr x off=>match x.ev G st.fr with
  | some (.sym p)=>match st.V.get p with
   | some (.vptr j i o)=>match st.V.get j with
    | some (.vec _ _)=>k (.sym st.mv) ⟨st.fr,st.H,(st.mv,.vptr j i (o+off))::st.V,st.m,st.mv+1⟩
    | _=>False
   | _=>False
  | _=>WXd st (xoS G ze st.fr st.H st.m (.faddr x off)) k
 | .store x y sz=>match x.ev G st.fr with
  | some (.sym p)=>match st.V.get p with
   | some (.vptr j i off)=>match st.V.get j with
    | some (.vec sz' es)=>match y.ev G st.fr with
     | some v=>match Nat.beq off 0&&Nat.beq sz sz'&&ppS 12 v with
      | true=>match cellsOf v sz with
       | some _=>k (.tup []) ⟨st.fr,st.H,(j,.vec sz' (es.set i v))::st.V.del j,st.m,st.mv⟩
       | none=>False
      | false=>False
     | none=>False
    | _=>False
   | _=>False
  | _=>WXd st (xoS G ze st.fr st.H st.m (.store x y sz)) k
 | .s2b x=>match x.ev G st.fr with
  | some (.str s)=>k (.sym st.mv) ⟨st.fr,st.H,(st.mv,.vec 1 (s.map fun b=>.int .u8 (.ofNat b)))::st.V,st.m,st.mv+1⟩
  | _=>False
 | .b2s x=>match x.ev G st.fr with
  | some (.sym j)=>match st.V.get j with
   | some (.vec sz es)=>match Nat.beq sz 1 with
    | true=>∃s,zA2 es=some s/\k (.str s) st
    | false=>False
   | _=>False
  | some (.lst sz es)=>match Nat.beq sz 1 with
   | true=>∃s,zA2 es=some s/\k (.str s) st
   | false=>False
  | some .nilslice=>k (.str []) st
  | _=>False
 | .bslice len sz z ps=>match ks with
  | []=>match fillx G st.fr z ps with
   | some cs=>match Nat.beq cs.length (len*sz) with
    | true=>match zCZ sz len cs with
     | some es=>match es.all (ppS 12) with
      | true=>k (.sym st.mv) ⟨st.fr,st.H,(st.mv,.vec sz es)::st.V,st.m,st.mv+1⟩
      | false=>False
     | none=>False
    | false=>False
   | none=>False
  | _=>WXd st (xoS G ze st.fr st.H st.m (.bslice len sz z ps)) k
 | .mkslice l c sz bytes z=>match l.ev G st.fr with
  | some (.int _ n)=>match c.ev G st.fr with
   | some (.int _ c)=>match zCZ sz 1 z,Nat.beq z.length sz with
    | some [e],true=>(0<=n/\n<=c/\c.toNat*bytes<=zg/\c.toNat<=zg) ∧
     k (.sym st.mv) ⟨st.fr,st.H,(st.mv,.vec sz (List.replicate n.toNat e))::st.V,st.m,st.mv+1⟩
    | _,_=>False
   | _=>False
  | _=>False
 | .append x y sz bytes=>match zKs y with
  | true=>False
  | false=>match x.ev G st.fr with
   | some v=>match y.ev G st.fr with
    | some u=>match zBj st.H sz u with
     | some ys=>match zK6 u||ppS 12 (.agg ys) with
      | true=>match v with
       | .nilslice=>(ys.length*bytes<=zg)/\k (.sym st.mv) ⟨st.fr,st.H,(st.mv,.vec sz ys)::st.V,st.m,st.mv+1⟩
       | .sym j=>match st.V.get j with
        | some (.vec sz' es)=>match Nat.beq sz sz' with
         | true=>((es.length+ys.length)*bytes<=zg/\es.length+ys.length<=zg)/\k (.sym st.mv) ⟨st.fr,st.H,(st.mv,.vec sz (es++ys))::st.V.del j,st.m,st.mv+1⟩
         | false=>False
        | _=>False
       | _=>False
      | false=>False
     | none=>False
    | none=>False
   | none=>False
 | .idxA x i l s a=>match ks with
  | []=>WXd st (xoS G ze st.fr st.H st.m (.idxA x i l s a)) k
  | _=>match i.ev G st.fr with
   | some (.int kd n)=>(0<=n/\n<.ofNat l)/\zFU n l fun m=>WXd st (xoS G ze st.fr st.H st.m (.idxA x (.c (.int kd (.ofNat m))) l s a)) k
   | _=>False
 | .iaddrA x i l s=>match ks with
  | []=>WXd st (xoS G ze st.fr st.H st.m (.iaddrA x i l s)) k
  | _=>match i.ev G st.fr with
   | some (.int kd n)=>(0<=n/\n<.ofNat l)/\zFU n l fun m=>WXd st (xoS G ze st.fr st.H st.m (.iaddrA x (.c (.int kd (.ofNat m))) l s)) k
   | _=>False
 | .mkmap=>k (.sym st.mv) ⟨st.fr,st.H,(st.mv,.mp [])::st.V,st.m,st.mv+1⟩
 | .lookup ag kd m x z ok=>match m.ev G st.fr with
  | some (.sym j)=>match st.V.get j with
   | some (.mp es)=>match x.ev G st.fr with
    | some kv=>match zCB ag kd kv with
     | true=>∃v,lkR ok z (mfind ag kd kv es)=some v/\k v st
     | false=>False
    | none=>False
   | _=>False
  | _=>False
 | .mupd ag kd m x y=>match m.ev G st.fr with
  | some (.sym j)=>match st.V.get j with
   | some (.mp es)=>match x.ev G st.fr with
    | some kv=>match y.ev G st.fr with
     | some u=>match zCB ag kd kv&&ppS 12 kv&&ppS 12 u with
      | true=>∃es',mput ag kd kv u es=some es'/\k (.tup []) ⟨st.fr,st.H,(j,.mp es')::st.V.del j,st.m,st.mv⟩
      | false=>False
     | none=>False
    | none=>False
   | _=>False
  | _=>False
 | .call f args=>match evs G st.fr args with
  | some vs=>wcall tb f vs st k
  | none=>False
 | .callv f args=>match f.ev G st.fr with
  | some (.func (.func f) first caps)=>match evs G st.fr args with
   | some vs=>wcall tb f (first++vs++caps) st k
   | none=>False
  | _=>False
 | .mov _ | .beq _ _ _ | .peq _ _ _ | .ieq _ _ _ _ _ | .seq _ _ _ | .meq _ _ _ | .feq _ _ _ | .un _ _ | .conv _ _ | .s2s _ | .idxb _ _ | .cntb _ _ | .fld _ _ _ _ | .ext _ _
 | .box _ _ | .alloc _ | .build _ _ | .nilchk _ | .lenS _ | .lenK _ | .min _ _ | .max _ _ | .mkfunc _ _ _ | .mkif _ _ | .tas _ _ _ _=>WXd st (xoS G ze st.fr st.H st.m o) k
 | _=>False
def brT (t:Nat) (c:Bool) (st:Sta) (k:Bool->Sta->Prop):Prop:=
 Br c (k true ⟨st.fr.put t (.bool true),st.H,st.V,st.m,st.mv⟩) (k false ⟨st.fr.put t (.bool false),st.H,st.V,st.m,st.mv⟩)
def addN (h:Nat) (l:List Nat):List Nat:=match inN h l with
 | true=>l
 | false=>l++[h]
def hsA:Nat->AV->List Nat->List Nat
 | 0,_,acc=>acc
 | d+1,v,acc=>match v with
  | .ptr h _ | .map h | .row h _ _ _ _ _=>addN h acc
  | .func _ a b=>b.foldl (fun acc v=>hsA d v acc) (a.foldl (fun acc v=>hsA d v acc) acc)
  | .iface _ v=>hsA d v acc
  | .agg cs | .tup cs=>cs.foldl (fun acc v=>hsA d v acc) acc
  | _=>acc
def zFi:Nat->AV->List Nat->List Nat
 | 0,_,acc=>acc
 | d+1,v,acc=>match v with
  | .sym j=>addN j acc
  | .func _ a b=>b.foldl (fun acc v=>zFi d v acc) (a.foldl (fun acc v=>zFi d v acc) acc)
  | .iface _ v=>zFi d v acc
  | .agg cs | .tup cs=>cs.foldl (fun acc v=>zFi d v acc) acc
  | _=>acc
def zE8 (H:Heap):Nat->Nat->List Nat->List Nat
 | 0,_,acc=>acc
 | f+1,i,acc=>match acc[i]? with
  | none=>acc
  | some h=>match H.get h with
   | some (.cells _ cs)=>zE8 H f (i+1) (cs.foldl (fun a v=>hsA 8 v a) acc)
   | _=>zE8 H f (i+1) acc
def posN (h:Nat):Nat->List Nat->Option Nat
 | _,[]=>none
 | i,a::r=>match Nat.beq h a with
  | true=>some i
  | false=>posN h (i+1) r
def rnV (hm sm:List Nat):Nat->AV->Option AV
 | 0,_=>none
 | d+1,v=>match v with
  | .ptr h o=>match posN h 0 hm with
   | some i=>some (.ptr i o)
   | none=>none
  | .row h o l s c e=>match posN h 0 hm with
   | some i=>some (.row i o l s c e)
   | none=>none
  | .map h=>match posN h 0 hm with
   | some i=>some (.map i)
   | none=>none
  | .sym j=>match posN j 0 sm with
   | some i=>some (.sym i)
   | none=>none
  | .func f a b=>match zp (rnV hm sm d) a with
   | some a=>match zp (rnV hm sm d) b with
    | some b=>some (.func f a b)
    | none=>none
   | none=>none
  | .iface t v=>match rnV hm sm d v with
   | some v=>some (.iface t v)
   | none=>none
  | .agg cs=>match zp (rnV hm sm d) cs with
   | some cs=>some (.agg cs)
   | none=>none
  | .tup cs=>match zp (rnV hm sm d) cs with
   | some cs=>some (.tup cs)
   | none=>none
  | v=>some v
def zMB (fr:Fr):List Nat->Option (List AV)
 | []=>some []
 | t::r=>match fr.get t with
  | some v=>match zMB fr r with
   | some vs=>some (v::vs)
   | none=>none
  | none=>none
def rnH (H:Heap) (hm sm:List Nat):Nat->List Nat->Option Heap
 | _,[]=>some []
 | i,h::r=>match H.get h with
  | some (.cells str cs)=>match zp (rnV hm sm 8) cs with
   | some cs=>match rnH H hm sm (i+1) r with
    | some H'=>some ((i,.cells str cs)::H')
    | none=>none
   | none=>none
  | _=>none
def zHq:List Nat->Bool
 | []=>true
 | a::r=>!(inN a r)&&zHq r
def rnVs (V:Vecs):Nat->List Nat->Option Vecs
 | _,[]=>some []
 | i,j::r=>match V.get j with
  | some (.vec sz es)=>match rnVs V (i+1) r with
   | some V'=>some ((i,.vec sz es)::V')
   | none=>none
  | some (.mp es)=>match rnVs V (i+1) r with
   | some V'=>some ((i,.mp es)::V')
   | none=>none
  | _=>none
structure Cut where
 slots:List Nat
 grow:List (Nat×Nat)
 pins:Nat
def zH4 (H:Heap) (h sz:Nat):AV->Option (Nat×List AV)
 | .row h2 o l s _ _=>match Nat.beq o 0&&(Nat.beq s sz&&!Nat.beq h2 h) with
  | true=>match H.get h2 with
   | some (.cells _ cs)=>match Nat.beq cs.length (l*sz) with
    | true=>match zCZ sz l cs with
     | some es=>match es.all (ppS 12) with
      | true=>some (h2,es)
      | false=>none
     | none=>none
    | false=>none
   | _=>none
  | false=>none
 | _=>none
def growC (h:Nat):List (Nat×Nat)->Sta->Sta
 | [],st=>st
 | (i,sz)::r,st=>match st.H.get h with
  | some (.cells str cs)=>match cs[i]? with
   | some .nilslice=>growC h r ⟨st.fr,st.H.put h (.cells str (cs.set i (.sym st.mv))),(st.mv,.vec sz [])::st.V,st.m,st.mv+1⟩
   | some v=>match zH4 st.H h sz v with
    | some (h2,es)=>growC h r ⟨st.fr,(st.H.del h2).put h (.cells str (cs.set i (.sym st.mv))),(st.mv,.vec sz es)::st.V,st.m,st.mv+1⟩
    | none=>growC h r st
   | none=>growC h r st
  | _=>st
def zDV:List (Nat×Nat)->Sta->Sta
 | [],st=>st
 | (t,sz)::r,st=>match Nat.blt t 1000 with
  | true=>match st.fr.get t with
   | some .nilslice=>zDV r ⟨st.fr.put t (.sym st.mv),st.H,(st.mv,.vec sz [])::st.V,st.m,st.mv+1⟩
   | some v=>match zH4 st.H st.m sz v with
    | some (h2,es)=>zDV r ⟨st.fr.put t (.sym st.mv),st.H.del h2,(st.mv,.vec sz es)::st.V,st.m,st.mv+1⟩
    | none=>zDV r st
   | none=>zDV r st
  | false=>match st.fr.get (Nat.sub (Nat.div t 1000) 1) with
   | some (.ptr h _)=>zDV r (growC h [(Nat.mod t 1000,sz)] st)
   | _=>zDV r st
def zCw (H:Heap):List Nat->List Nat->List Nat
 | [],acc=>acc
 | h::r,acc=>match H.get h with
  | some (.cells _ cs)=>zCw H r (cs.foldl (fun a v=>zFi 8 v a) acc)
  | _=>zCw H r acc
def zCb (hm sm:List Nat) (vs:List AV) (st:Sta) (k:List AV->Heap->Vecs->Prop):Prop:=
 match zHq hm&&zHq sm with
 | true=>match zp (rnV hm sm 8) vs with
  | some vs=>match rnH st.H hm sm 0 hm with
   | some H=>match rnVs st.V 0 sm with
    | some V=>k vs H V
    | none=>False
   | none=>False
  | none=>False
 | false=>False
def zHr (pins:Nat) (vs:List AV) (st:Sta) (F:List Nat->List Nat->Prop):Prop:=
 (fun hm=>F hm (zCw st.H hm (vs.foldl (fun a v=>zFi 8 v a) []))) (zE8 st.H 30 0 (vs.foldl (fun a v=>hsA 8 v a) (List.range pins)))
def canon (c:Cut) (st:Sta) (k:List AV->Heap->Vecs->Prop):Prop:=
 match zMB st.fr c.slots with
 | none=>False
 | some vs=>zHr c.pins vs st fun hm sm=>zCb hm sm vs st k
abbrev Inv:=List AV->Heap->Vecs->Prop
def cutP (c:Cut) (P:Inv) (st:Sta):Prop:=canon c (zDV c.grow st) P
def zipF:List Nat->List AV->Fr
 | t::ts,v::vs=>(t,v)::zipF ts vs
 | _,_=>[]
def mkW (c:Cut) (vs:List AV) (H:Heap) (V:Vecs):Sta:=⟨zipF c.slots vs,H,V,H.length,V.length⟩
structure HEnt where
 f:Nat
 grow:List (Nat×Nat)
 pre:List AV->Heap->Vecs->Prop
 val:List AV->Heap->Vecs->Option (AV×Heap×Vecs)
structure TOp where
 o:XOper
 ks:List K
 h:Option (List HEnt)
def growA (g:List (Nat×Nat)) (args:List AV) (st:Sta):Sta:=match args with
 | .ptr h _::_=>growC h g st
 | _=>st
def rnB (mv:Nat):AV->AV
 | .sym j=>.sym (mv+j)
 | v=>v
def zFV (hm:List Nat) (mv:Nat) (H2 H:Heap):Heap:=H.map fun p=>match posN p.1 0 hm with
 | some i=>match H2[i]? with
  | some (_,.cells str cs)=>(p.1,.cells str (cs.map (rnB mv)))
  | _=>p
 | none=>p
def zH5 (sm:List Nat) (mv:Nat):Vecs->Vecs->Vecs
 | [],V=>V.filter fun p=>!inN p.1 sm
 | (j,vi)::r,V=>(mv+j,vi)::zH5 sm mv r V
def inpl:List (Nat×Nat)->Bool
 | [(0,0)]=>true
 | _=>false
def zGY (sm:List Nat) (V2 V:Vecs):Vecs:=V.map fun p=>match posN p.1 0 sm with
 | some i=>match V2.get i with
  | some vi=>(p.1,vi)
  | none=>p
 | none=>p
def zGZ (g:List (Nat×Nat)) (hm sm:List Nat) (st:Sta) (H2:Heap) (V2:Vecs):Sta:=match inpl g with
 | true=>⟨st.fr,st.H,zGY sm V2 st.V,st.m,st.mv⟩
 | false=>⟨st.fr,zFV hm st.mv H2 st.H,zH5 sm st.mv V2 st.V,st.m,st.mv+V2.length⟩
def zH6 (g:List (Nat×Nat)) (mv:Nat) (v:AV):AV:=match inpl g with
 | true=>v
 | false=>rnB mv v
def zDx (e:HEnt) (args:List AV) (st:Sta) (k:AV->Sta->Prop):Prop:=
 (fun st=>zHr 0 args st fun hm sm=>zCb hm sm args st fun args' H V=>e.pre args' H V/\match e.val args' H V with
  | some (v,H2,V2)=>k (zH6 e.grow st.mv v) (zGZ e.grow hm sm st H2 V2)
  | none=>False) (growA e.grow args st)
def zG0:List HEnt->Nat->Option HEnt
 | [],_=>none
 | s::r,f=>match Nat.beq f s.f with
  | true=>some s
  | false=>zG0 r f
def zEC (F:List Nat):Heap->Heap
 | []=>[]
 | p::r=>match inN p.1 F with
  | true=>p::zEC F r
  | false=>zEC F r
def zJs (F:List Nat):Heap->Heap
 | []=>[]
 | p::r=>match inN p.1 F with
  | true=>zJs F r
  | false=>p::zJs F r
def frzV (HF:Heap) (v:AV):AV:=match hasH 8 v with
 | false=>v
 | true=>match frz HF [] 8 v with
  | some v'=>v'
  | none=>v
def zH7 (HF:Heap) (fr0:Fr):Fr->Fr
 | []=>[]
 | (t,_)::r=>match fr0.get t with
  | some v=>(t,frzV HF v)::zH7 HF fr0 r
  | none=>zH7 HF fr0 r
def frzS (F:List Nat) (HF:Heap) (st:Sta):Sta:=⟨zH7 HF st.fr st.fr,zJs F st.H,st.V,st.m,st.mv⟩
def symV (V:Vecs):AV->AV
 | .sym j=>match V.get j with
  | some (.vec sz es)=>.lst sz es
  | _=>.sym j
 | v=>v
def zK7:AV->Bool
 | .sym _=>true
 | _=>false
def frzVS (st:Sta):Sta:=⟨st.fr.map fun p=>(p.1,symV st.V p.2),st.H,[],st.m,st.mv⟩
def wfrz (st:Sta) (v:AV) (k:AV->Sta->Prop):Prop:=match zK7 v with
 | true=>k (symV st.V v) (frzVS st)
 | false=>(fun F=>(fun HF=>match frz HF [] 8 v with
  | some v'=>k v' (frzS F HF st)
  | none=>False) (zEC F st.H)) (zE8 st.H 30 0 (hsA 8 v []))
def isFz {α:Type} (h:Option α):XO->Bool
 | .mkfunc _ _ _ | .mov _=>h.isSome
 | _=>false
def zKt (G:Cx) (hs:List HEnt) (st:Sta) (o:XO) (k:AV->Sta->Prop):Prop:=match o with
 | .call f args=>match zG0 hs f with
  | some e=>match evs G st.fr args with
   | some vs=>zDx e vs st k
   | none=>False
  | none=>False
 | .callv f args=>match f.ev G st.fr with
  | some (.func (.func f) first caps)=>match zG0 hs f with
   | some e=>match evs G st.fr args with
    | some vs=>zDx e (first++vs++caps) st k
    | none=>False
   | none=>False
  | _=>False
 | _=>False
def wopT (G:Cx) (tb:TblS) (st:Sta) (o:TOp) (k:AV->Sta->Prop):Prop:=match o.h with
 | none=>wop G tb st o.o.op o.ks k
 | some e=>zKt G e st o.o.op k
def wopR (G:Cx) (tb:TblS) (st:Sta) (o:TOp) (k:AV->Sta->Prop):Prop:=match isFz o.h o.o.op with
 | true=>WXd st (xoS G ze st.fr st.H st.m o.o.op) fun v st=>wfrz st v k
 | false=>wopT G tb st o k
def wops (G:Cx) (tb:TblS):List TOp->(Sta->Prop)->Sta->Prop
 | [],k,st=>k st
 | o::r,k,st=>match o.o.guard with
  | none=>wopR G tb st o fun v st=>∃v',WK v v'/\wops G tb r k (st.put o.o.dst v')
  | some (t,b)=>match st.fr.get t with
   | some (.bool c)=>brT t c st fun c st=>match c==b with
    | true=>wopR G tb st o fun v st=>∃v',WK v v'/\wops G tb r k (st.put o.o.dst v')
    | false=>wops G tb r k (st.put o.o.dst (.tup []))
   | some (.tup [])=>wops G tb r k (st.put o.o.dst (.tup []))
   | _=>False
inductive PP:AV->Prop where
 | bool (b:Bool):PP (.bool b)
 | int (k:IntKind) (n:Int):PP (.int k n)
 | str (s:List Nat):PP (.str s)
 | nilptr:PP .nilptr
 | nilslice:PP .nilslice
 | nilmap:PP .nilmap
 | nilfunc:PP .nilfunc
 | niliface:PP .niliface
 | eptr (e:AV) (off:Nat) (h:PP e):PP (.eptr e off)
 | lst (sz:Nat) (es:List AV) (h:∀e∈es,PP e):PP (.lst sz es)
 | func (fn:Fn) (a b:List AV) (ha:∀e∈a,PP e) (hb:∀e∈b,PP e):PP (.func fn a b)
 | iface (t:Nat) (v:AV) (h:PP v):PP (.iface t v)
 | agg (cs:List AV) (h:∀e∈cs,PP e):PP (.agg cs)
 | tup (cs:List AV) (h:∀e∈cs,PP e):PP (.tup cs)
inductive CP (n k:Nat):AV->Prop where
 | bool (b:Bool):CP n k (.bool b)
 | int (q:IntKind) (m:Int):CP n k (.int q m)
 | str (s:List Nat):CP n k (.str s)
 | nilptr:CP n k .nilptr
 | nilslice:CP n k .nilslice
 | nilmap:CP n k .nilmap
 | nilfunc:CP n k .nilfunc
 | niliface:CP n k .niliface
 | ptr (h o:Nat) (hk:h<k):CP n k (.ptr h o)
 | row (h o l s c:Nat) (e:Bool) (hk:h<k):CP n k (.row h o l s c e)
 | map (h:Nat) (hk:h<k):CP n k (.map h)
 | sym (i:Nat) (h:i<n):CP n k (.sym i)
 | eptr (e:AV) (off:Nat) (h:PP e):CP n k (.eptr e off)
 | lst (sz:Nat) (es:List AV) (h:∀e∈es,PP e):CP n k (.lst sz es)
 | func (fn:Fn) (a b:List AV) (ha:∀e∈a,CP n k e) (hb:∀e∈b,CP n k e):CP n k (.func fn a b)
 | iface (t:Nat) (v:AV) (h:CP n k v):CP n k (.iface t v)
 | agg (cs:List AV) (h:∀e∈cs,CP n k e):CP n k (.agg cs)
 | tup (cs:List AV) (h:∀e∈cs,CP n k e):CP n k (.tup cs)
def FrCP (n k:Nat) (fr:Fr):Prop:=∀t v,fr.get t=some v->CP n k v
def HCP (n k:Nat) (H:Heap):Prop:=∀p∈H,∃str cs,p.2=.cells str cs/\∀c∈cs,CP n k c
structure HV (s r:Sta):Prop where
 H:r.H=s.H
 V:r.V=s.V
 m:r.m=s.m
 mv:r.mv=s.mv
def clsQ (t:TOp):Nat:=match t.h with
 | some _=>3
 | none=>match t.o.op with
  | .lenL _ | .load _ _ _ | .lookup _ _ _ _ _ _ | .call _ _ | .callv _ _=>1
  | .cap _=>3
  | .box _ _ | .alloc _=>2
  | .bslice _ _ _ _=>match t.ks with
   | []=>3
   | _=>2
  | .store _ _ _=>match t.ks with
   | []=>3
   | _=>2
  | o=>match zI o with
   | 0=>0
   | _=>3
def seqQ:Nat->List Nat->List Nat->List Nat->List TOp->List XD->Bool
 | _,_,_,_,[],_=>true
 | i,bars,hard,rds,t::r,d::ds=>match clsQ t with
  | 0=>seqQ (i+1) bars hard rds r ds
  | 1=>hard.all (fun c=>d.preds.testBit c)&&seqQ (i+1) bars hard (i::rds) r ds
  | 2=>bars.all (fun c=>d.preds.testBit c)&&seqQ (i+1) (i::bars) hard rds r ds
  | _=>bars.all (fun c=>d.preds.testBit c)&&rds.all (fun c=>d.preds.testBit c)&&seqQ (i+1) (i::bars) (i::hard) rds r ds
 | _,_,_,_,_::_,[]=>false
def zFW:List TOp->List XD->Bool
 | [],_=>true
 | o::r,d::ds=>(zGV o.o.op.opnds).all (fun t=>inN t d.looks)&&gdIn o.o.guard d.looks&&zFW r ds
 | _::_,[]=>false
inductive TC where
 | skip
 | ret
 | exit (i:Nat)
 | reg (ops:List TOp)
 | draw (pn:List Nat) (ops:List TOp) (ds:List XD)
 | drawA (ops:List TOp) (ds:List XD)
 | drawQ (ops:List TOp) (ds:List XD)
 | seq (a b:TC)
 | cond (c:XV) (a b:TC)
 | block (i:Nat) (b:TC)
 | loop (c:Cut) (I:List Nat->Inv) (b:TC)
 | unroll (k:Nat) (b:TC)
 | seqJ (c:Cut) (J:List Nat->Inv) (a b:TC)
def er:TC->XC
 | .skip=>.skip
 | .ret=>.ret
 | .exit i=>.exit i
 | .reg ops=>.reg (ops.map TOp.o)
 | .draw _ ops ds=>.draw (ops.map TOp.o) ds
 | .drawA ops ds=>.draw (ops.map TOp.o) ds
 | .drawQ ops ds=>.draw (ops.map TOp.o) ds
 | .seq a b=>.seq (er a) (er b)
 | .cond c a b=>.cond c (er a) (er b)
 | .block i b=>.block i (er b)
 | .loop _ _ b=>.loop (er b)
 | .unroll _ b=>.loop (er b)
 | .seqJ _ _ a b=>.seq (er a) (er b)
def wopD (G:Cx) (tb:TblS) (st:Sta) (o:XO) (ks:List K) (k:AV->Sta->Prop):Prop:=
 match o with
 | .s2b _ | .mkslice _ _ _ _ _ | .append _ _ _ _ | .mkmap | .mupd _ _ _ _ _ | .b2s _ | .lookup _ _ _ _ _ _=>False
 | .bslice len sz z ps=>WXd st (xoS G ze st.fr st.H st.m (.bslice len sz z ps)) k
 | o=>wop G tb ⟨st.fr,st.H,[],st.m,st.mv⟩ o ks fun v st'=>k v ⟨st'.fr,st'.H,st.V,st'.m,st'.mv⟩
def zBd (G:Cx) (tb:TblS):List TOp->(Sta->Prop)->Sta->Prop
 | [],k,st=>k st
 | o::r,k,st=>match o.o.guard with
  | none=>wopD G tb st o.o.op o.ks fun v st=>zBd G tb r k (st.put o.o.dst v)
  | some (t,b)=>match st.fr.get t with
   | some (.bool c)=>brT t c st fun c st=>match c==b with
    | true=>wopD G tb st o.o.op o.ks fun v st=>zBd G tb r k (st.put o.o.dst v)
    | false=>zBd G tb r k (st.put o.o.dst (.tup []))
   | some (.tup [])=>zBd G tb r k (st.put o.o.dst (.tup []))
   | _=>False
def zN4 (Q:Ext->Sta->Prop) (k:Sta->Prop):Ext->Sta->Prop
 | .normal,st=>k st
 | .exit i,st=>Q (.exit i) st
 | .ret,st=>Q .ret st
def zOB (id:Nat) (Q:Ext->Sta->Prop):Ext->Sta->Prop
 | .normal,st=>Q .normal st
 | .exit i,st=>match Nat.beq i id with
  | true=>Q .normal st
  | false=>Q (.exit i) st
 | .ret,st=>Q .ret st
def zMC (ops:List XOper) (ds:List XD):Bool:=zKq ops ds&&seqN 0 [] [] [] [] [] [] ops ds
def zCU (G:Cx) (tb:TblS) (st:Sta) (o:TOp) (k:Sta->Prop):Prop:=match o.o.guard with
 | none=>wopT G tb st o fun v st=>∃v',WK v v'/\k (st.put o.o.dst v')
 | some (t,b)=>match st.fr.get t with
  | some (.bool c)=>brT t c st fun c st=>match c==b with
   | true=>wopT G tb st o fun v st=>∃v',WK v v'/\k (st.put o.o.dst v')
   | false=>k (st.put o.o.dst (.tup []))
  | some (.tup [])=>k (st.put o.o.dst (.tup []))
  | _=>False
def zK8 (F:Nat->TOp->Prop) (listed:Nat):Nat->List TOp->List XD->Prop
 | i,t::ts,d::ds=>match !listed.testBit i&&Nat.beq (d.preds &&& listed) d.preds with
  | true=>F i t/\zK8 F listed (i+1) ts ds
  | false=>zK8 F listed (i+1) ts ds
 | _,_,_=>True
def zN5 (G:Cx) (tb:TblS) (ops:List TOp) (ds:List XD) (K:Sta->Prop):Nat->Nat->Sta->Prop
 | 0,_,st=>K st
 | n+1,listed,st=>zK8 (fun i t=>zCU G tb st t (zN5 G tb ops ds K n (listed ||| 2 ^ i))) listed 0 ops ds
def zN6 (fr:Fr) (t:Nat):Bool:=match fr.get t with
 | some (.ptr _ _)=>true
 | _=>false
def bndL:Option Nat->Nat->Nat
 | none,m=>m
 | some l,m=>Min.min l m
def ltH:Nat->Nat->AV->Bool
 | 0,_,_=>false
 | d+1,l,v=>match v with
  | .ptr h _ | .row h _ _ _ _ _ | .map h=>Nat.blt h l
  | .func _ a b=>a.all (ltH d l)&&b.all (ltH d l)
  | .iface _ v=>ltH d l v
  | .agg cs | .tup cs=>cs.all (ltH d l)
  | _=>true
def ltHp (l:Nat):Heap->Bool
 | []=>true
 | (h,.cells _ cs)::r=>(!(Nat.blt h l)||cs.all (ltH 12 l))&&ltHp l r
 | _::_=>false
structure ChQ (G:Cx) (tb:TblS) (lo:Option Nat) (ops:List TOp) (c:Nat->Sta):Prop where
 st:∀(i:Nat) t,ops[i]? = some t->zCU G tb (c i) t (fun x=>x=c (i+1))
 hv:∀(i:Nat) t,ops[i]? = some t->clsQ t<=1->HV (c i) (c (i+1))
 al:∀(i:Nat) t,ops[i]? = some t->clsQ t=2->(c (i+1)).V=(c i).V/\(c (i+1)).mv=(c i).mv/\(c i).m<=(c (i+1)).m/\∀h,h<bndL lo (c i).m->(c (i+1)).H.get h=(c i).H.get h
 cp:∀i,i<=ops.length->FrCP (c i).mv (c i).m (c i).fr/\HCP (c i).mv (c i).m (c i).H
 rd:∀(i:Nat) t,ops[i]? = some t->clsQ t=1->(∀g v,XV.t g∈t.o.op.opnds->(c i).fr.get g=some v->CP (c i).mv (bndL lo (c i).m) v)/\∀h str cs,h<bndL lo (c i).m->(c i).H.get h=some (.cells str cs)->∀x∈cs,CP (c i).mv (bndL lo (c i).m) x
def zK9 (B:Nat->(Ext->Sta->Prop)->Sta->Prop) (Q:Ext->Sta->Prop):Nat->Sta->Prop
 | 0,_=>False
 | n+1,st=>B n (zN4 Q (zK9 B Q n)) st
def WT (G:Cx) (tb:TblS):TC->List Nat->(Ext->Sta->Prop)->Sta->Prop
 | .skip,gs,Q,st=>Q .normal st
 | .ret,gs,Q,st=>Q .ret st
 | .exit i,gs,Q,st=>Q (.exit i) st
 | .reg ops,gs,Q,st=>wops G tb ops (Q .normal) st
 | .draw pn ops ds,gs,Q,st=>match zMC (ops.map TOp.o) ds&&pn.all (zN6 st.fr) with
  | true=>zBd G tb ops (Q .normal) st
  | false=>False
 | .drawA ops ds,gs,Q,st=>zN5 G tb ops ds (Q .normal) ops.length 0 st
 | .drawQ ops ds,gs,Q,st=>(zFW ops ds&&seqQ 0 [] [] [] ops ds)=true/\∃lo c,c 0=st/\ChQ G tb lo ops c/\Q .normal (c ops.length)
 | .seq a b,gs,Q,st=>WT G tb a gs (zN4 Q (WT G tb b gs Q)) st
 | .cond c a b,gs,Q,st=>match c.ev G st.fr with
  | some (.bool cb)=>match c with
   | .t n=>brT n cb st fun cb st=>match cb with
    | true=>WT G tb a gs Q st
    | false=>WT G tb b gs Q st
   | _=>Br cb (WT G tb a gs Q st) (WT G tb b gs Q st)
  | _=>False
 | .block i b,gs,Q,st=>WT G tb b gs (zOB i Q) st
 | .unroll k b,gs,Q,st=>zK9 (fun n Q st=>WT G tb b (n::gs) Q st) Q k st
 | .loop c I b,gs,Q,st=>(∃n,cutP c (I (n::gs)) st)/\∀n vs H V,I (n::gs) vs H V->WT G tb b (n::gs) (zN4 Q fun st=>∃n',n'<n/\cutP c (I (n'::gs)) st) (mkW c vs H V)
 | .seqJ c J a b,gs,Q,st=>WT G tb a gs (zN4 Q (cutP c (J gs))) st/\∀vs H V,J gs vs H V->WT G tb b gs Q (mkW c vs H V)
def xvOK:XV->Bool
 | .c v=>z7 12 v
 | _=>true
def zH:XO->Bool
 | .alloc z | .build z _ | .bslice _ _ z _ | .mkslice _ _ _ _ z=>z.all (z7 12)
 | .lookup _ _ _ _ z _ | .tas _ _ _ z=>z7 12 z
 | _=>true
def opOK (o:XO):Bool:=o.opnds.all xvOK&&zH o
def tcOK:TC->Bool
 | .reg ops | .draw _ ops _ | .drawA ops _ | .drawQ ops _=>ops.all fun t=>opOK t.o.op
 | .seq a b | .seqJ _ _ a b | .cond _ a b=>tcOK a&&tcOK b
 | .block _ b | .loop _ _ b | .unroll _ b=>tcOK b
 | _=>true
def endW (res:List XR) (R:AV->Sta->Prop):Ext->Sta->Prop
 | .exit _,_=>False
 | _,st=>match ress st.H st.fr res with
  | some vs=>R (zBt vs) st
  | none=>False
def tcH (F:HEnt->Prop):TC->Prop
 | .reg ops | .drawA ops _ | .drawQ ops _=>∀t∈ops,∀es,t.h=some es->∀e∈es,F e
 | .seq a b | .seqJ _ _ a b | .cond _ a b=>tcH F a/\tcH F b
 | .block _ b | .loop _ _ b | .unroll _ b=>tcH F b
 | _=>True
def zAs (H:Heap) (V:Vecs):Nat->AV->Option AV
 | 0,_=>none
 | d+1,v=>match v with
  | .sym j=>match V.get j with
   | some (.vec sz es)=>some (.lst sz es)
   | _=>none
  | .agg cs=>match zp (zAs H V d) cs with
   | some cs=>some (.agg cs)
   | none=>none
  | .tup cs=>match zp (zAs H V d) cs with
   | some cs=>some (.tup cs)
   | none=>none
  | .ptr h off=>match H.get h with
   | some (.cells _ cs)=>match zp (zAs H V d) cs with
    | some cs=>some (.eptr (.agg cs) off)
    | none=>none
   | _=>none
  | .iface t v=>match zAs H V d v with
   | some v=>some (.iface t v)
   | none=>none
  | .func f a b=>match zp (zAs H V d) a with
   | some a=>match zp (zAs H V d) b with
    | some b=>some (.func f a b)
    | none=>none
   | none=>none
  | .row _ _ _ _ _ _ | .map _=>none
  | v=>some v
def endP (res:List XR) (R:AV->Prop):Ext->Sta->Prop:=endW res fun v st=>match zAs st.H st.V 8 v with
 | some v=>R v
 | none=>False
def pinE (fr:Fr):Nat->List Nat->Bool
 | _,[]=>true
 | i,t::r=>(match fr.get t with
  | some (.ptr h 0)=>Nat.beq h i
  | _=>false)&&pinE fr (i+1) r
def endH (res:List XR) (pn:List Nat) (R:AV->Heap->Vecs->Prop):Ext->Sta->Prop:=endW res fun v st=>match zK7 v with
 | false=>match hasH 8 v||!pinE st.fr 0 pn with
  | false=>zCb (List.range pn.length) (zCw st.H (List.range pn.length) []) [] st fun _ H V=>R v H V
  | true=>False
 | true=>match pinE st.fr 0 pn with
  | true=>zCb (List.range pn.length) (zCw st.H (List.range pn.length) (zFi 8 v [])) [v] st fun us H V=>match us with
   | [u]=>R u H V
   | _=>False
  | false=>False
def tcN (pn:List Nat):TC->Bool
 | .reg ops | .drawA ops _ | .drawQ ops _=>ops.all fun t=>match t.o.dst with
  | some d=>!inN d pn
  | none=>true
 | .draw pn' ops _=>(ops.all fun t=>match t.o.dst with
  | some d=>!inN d pn
  | none=>true)&&pn.all fun t=>inN t pn'
 | .seq a b | .seqJ _ _ a b | .cond _ a b=>tcN pn a&&tcN pn b
 | .block _ b | .loop _ _ b | .unroll _ b=>tcN pn b
 | _=>true
end Go.Sy
namespace Go.Sy
theorem PP.cp {n k:Nat} {v:AV} (h:PP v):CP n k v:=by
 induction h with
 | bool b=>exact .bool b
 | int k m=>exact .int k m
 | str s=>exact .str s
 | nilptr=>exact .nilptr
 | nilslice=>exact .nilslice
 | nilmap=>exact .nilmap
 | nilfunc=>exact .nilfunc
 | niliface=>exact .niliface
 | eptr e off h _=>exact .eptr e off h
 | lst sz es h _=>exact .lst sz es h
 | func fn a b _ _ ia ib=>exact .func fn a b ia ib
 | iface t v _ ih=>exact .iface t v ih
 | agg cs _ ih=>exact .agg cs ih
 | tup cs _ ih=>exact .tup cs ih
theorem CP.mono {n m k l:Nat} (hm:n<=m) (hl:k<=l) {v:AV} (h:CP n k v):CP m l v:=by
 induction h with
 | bool b=>exact .bool b
 | int k m=>exact .int k m
 | str s=>exact .str s
 | nilptr=>exact .nilptr
 | nilslice=>exact .nilslice
 | nilmap=>exact .nilmap
 | nilfunc=>exact .nilfunc
 | niliface=>exact .niliface
 | ptr h o hk=>exact .ptr h o (Nat.lt_of_lt_of_le hk hl)
 | row h o l s c e hk=>exact .row h o l s c e (Nat.lt_of_lt_of_le hk hl)
 | map h hk=>exact .map h (Nat.lt_of_lt_of_le hk hl)
 | sym i h=>exact .sym i (Nat.lt_of_lt_of_le h hm)
 | eptr e off h=>exact .eptr e off h
 | lst sz es h=>exact .lst sz es h
 | func fn a b _ _ ia ib=>exact .func fn a b ia ib
 | iface t v _ ih=>exact .iface t v ih
 | agg cs _ ih=>exact .agg cs ih
 | tup cs _ ih=>exact .tup cs ih
theorem CP.min {n k l:Nat} {v:AV} (h:CP n k v) (h':CP n l v):CP n (Min.min l k) v:=by
 induction h with
 | bool b=>exact .bool b
 | int k m=>exact .int k m
 | str s=>exact .str s
 | nilptr=>exact .nilptr
 | nilslice=>exact .nilslice
 | nilmap=>exact .nilmap
 | nilfunc=>exact .nilfunc
 | niliface=>exact .niliface
 | ptr h o hk=>cases h' with | ptr _ _ hl=>exact .ptr h o (Nat.lt_min.2 ⟨hl,hk⟩)
 | row h o l s c e hk=>cases h' with | row _ _ _ _ _ _ hl=>exact .row h o l s c e (Nat.lt_min.2 ⟨hl,hk⟩)
 | map h hk=>cases h' with | map _ hl=>exact .map h (Nat.lt_min.2 ⟨hl,hk⟩)
 | sym i h=>exact .sym i h
 | eptr e off h=>exact .eptr e off h
 | lst sz es h=>exact .lst sz es h
 | func fn a b _ _ ia ib=>cases h' with | func _ _ _ ha hb=>exact .func fn a b (fun e he=>ia e he (ha e he)) (fun e he=>ib e he (hb e he))
 | iface t v _ ih=>cases h' with | iface _ _ hv=>exact .iface t v (ih hv)
 | agg cs _ ih=>cases h' with | agg _ hc=>exact .agg cs fun e he=>ih e he (hc e he)
 | tup cs _ ih=>cases h' with | tup _ hc=>exact .tup cs fun e he=>ih e he (hc e he)
theorem CP.lt {n k l:Nat}:∀(d:Nat) {v:AV},CP n k v->ltH d l v=true->CP n (Min.min l k) v:=by
 intro d
 induction d with
 | zero=>intro v _ h;cases h
 | succ d ih=>
  intro v hc h;have al:∀{xs:List AV},(∀e∈xs,CP n k e)->xs.all (ltH d l)=true->∀e∈xs,CP n (Min.min l k) e:=fun hc hl e he=>ih (hc e he) (List.all_eq_true.1 hl e he)
  have bl:∀{a:Nat},a<k->Nat.blt a l=true->a<Min.min l k:=fun h1 h2=>Nat.lt_min.2 ⟨by simpa [Nat.blt_eq] using h2,h1⟩
  cases hc with
  | bool b=>exact .bool b
  | int k m=>exact .int k m
  | str s=>exact .str s
  | nilptr=>exact .nilptr
  | nilslice=>exact .nilslice
  | nilmap=>exact .nilmap
  | nilfunc=>exact .nilfunc
  | niliface=>exact .niliface
  | ptr h' o hk=>exact .ptr h' o (bl hk h)
  | row h' o l s c e hk=>exact .row h' o l s c e (bl hk h)
  | map h' hk=>exact .map h' (bl hk h)
  | sym i hi=>exact .sym i hi
  | eptr e off he=>exact .eptr e off he
  | lst sz es he=>exact .lst sz es he
  | func fn a b ha hb=>
   have h:(a.all (ltH d l)&&b.all (ltH d l))=true:=h;rw [Bool.and_eq_true] at h;exact .func fn a b (al ha h.1) (al hb h.2)
  | iface t v hv=>exact .iface t v (ih hv h)
  | agg cs hs=>exact .agg cs (al hs h)
  | tup cs hs=>exact .tup cs (al hs h)
theorem zOC {l:Nat}:∀{H:Heap} {h:Nat} {str:Bool} {cs:List AV},ltHp l H=true->h<l->H.get h=some (.cells str cs)->cs.all (ltH 12 l)=true
 | [],_,_,_,_,_,h=>by cases h
 | (h',.cells s' cs')::r,h,str,cs,hp,hl,hg=>by
  simp only [ltHp,Bool.and_eq_true,Bool.or_eq_true] at hp;simp only [Heap.get] at hg;split at hg
  ·rename_i e;cases hg;have e:=zb e;subst e;rcases hp.1 with h1 | h1
   ·have h2:Nat.blt h' l=true:=by rw [Nat.blt_eq];exact hl
    rw [h2] at h1;cases h1
   ·exact h1
  ·exact zOC hp.2 hl hg
 | (h',.map es)::r,h,str,cs,hp,hl,hg=>by simp [ltHp] at hp
theorem zT7 {lo:Option Nat} {m:Nat}:bndL lo m<=m:=by
 cases lo with
 | none=>exact Nat.le_refl _
 | some l=>exact Nat.min_le_right _ _
theorem zNv {lo:Option Nat} {m m':Nat} (h:m<=m'):bndL lo m<=bndL lo m':=by
 cases lo with
 | none=>exact h
 | some l=>simp only [bndL];omega
theorem zSG {lo:Option Nat} {m m':Nat} (h:m'<=m):Min.min m' (bndL lo m)<=bndL lo m':=by
 cases lo with
 | none=>simp only [bndL];omega
 | some l=>simp only [bndL];omega
theorem zAt:∀(d:Nat) {v:AV},z7 d v=true->PP v:=by
 intro d
 induction d with
 | zero=>intro v h;cases h
 | succ d ih=>
  intro v h;have al:∀{l:List AV},l.all (z7 d)=true->∀e∈l,PP e:=fun hl e he=>ih (List.all_eq_true.1 hl e he)
  cases v with
  | bool b=>exact .bool b
  | int k m=>exact .int k m
  | str s=>exact .str s
  | nilptr=>exact .nilptr
  | nilslice=>exact .nilslice
  | nilmap=>exact .nilmap
  | nilfunc=>exact .nilfunc
  | niliface=>exact .niliface
  | eptr e off=>exact .eptr e off (ih h)
  | lst sz es=>exact .lst sz es (al h)
  | func fn a b=>
   have h:(a.all (z7 d)&&b.all (z7 d))=true:=h;rw [Bool.and_eq_true] at h;exact .func fn a b (al h.1) (al h.2)
  | iface t v=>exact .iface t v (ih h)
  | agg cs=>exact .agg cs (al h)
  | tup cs=>exact .tup cs (al h)
  | _=>cases h
theorem zBK {n k:Nat}:∀(d:Nat) {v:AV},CP n k v->ppS d v=true->PP v:=by
 intro d
 induction d with
 | zero=>intro v _ h;cases h
 | succ d ih=>
  intro v hc h;have al:∀{l:List AV},(∀e∈l,CP n k e)->l.all (ppS d)=true->∀e∈l,PP e:=fun hc hl e he=>ih (hc e he) (List.all_eq_true.1 hl e he)
  cases hc with
  | bool b=>exact .bool b
  | int k m=>exact .int k m
  | str s=>exact .str s
  | nilptr=>exact .nilptr
  | nilslice=>exact .nilslice
  | nilmap=>exact .nilmap
  | nilfunc=>exact .nilfunc
  | niliface=>exact .niliface
  | eptr e off he=>exact .eptr e off he
  | lst sz es he=>exact .lst sz es he
  | func fn a b ha hb=>
   have h:(a.all (ppS d)&&b.all (ppS d))=true:=h;rw [Bool.and_eq_true] at h;exact .func fn a b (al ha h.1) (al hb h.2)
  | iface t v hv=>exact .iface t v (ih hv h)
  | agg cs hs=>exact .agg cs (al hs h)
  | tup cs hs=>exact .tup cs (al hs h)
  | _=>cases h
theorem CP.cells {n k:Nat} {v:AV} (h:CP n k v):∀c∈v.cells,CP n k c:=by
 cases h with
 | agg cs h=>exact h
 | _=>intro c hc;simp only [AV.cells,List.mem_singleton] at hc;subst hc;constructor <;> assumption
theorem PP.cells {v:AV} (h:PP v):∀c∈v.cells,PP c:=by
 cases h with
 | agg cs h=>exact h
 | _=>intro c hc;simp only [AV.cells,List.mem_singleton] at hc;subst hc;constructor <;> assumption
theorem zM4 {n k:Nat} {cs:List AV} {off sz:Nat} {ag:Bool} {v:AV} (h:∀c∈cs,CP n k c) (hp:part cs off sz ag=some v):CP n k v:=by
 unfold part at hp;split at hp
 ·split at hp
  ·cases hp;exact .agg _ fun c hc=>h c (List.mem_of_mem_drop (List.mem_of_mem_take hc))
  ·cases hp
 ·exact h v (List.mem_of_getElem? hp)
theorem zM5 {cs:List AV} {off sz:Nat} {ag:Bool} {v:AV} (h:∀c∈cs,PP c) (hp:part cs off sz ag=some v):PP v:=by
 unfold part at hp;split at hp
 ·split at hp
  ·cases hp;exact .agg _ fun c hc=>h c (List.mem_of_mem_drop (List.mem_of_mem_take hc))
  ·cases hp
 ·exact h v (List.mem_of_getElem? hp)
theorem zG1 {cs new:List AV} {off:Nat} {c:AV} (h:c∈splice cs off new):c∈cs\/c∈new:=by
 unfold splice at h;rcases List.mem_append.1 h with h | h
 ·rcases List.mem_append.1 h with h | h
  ·exact .inl (List.mem_of_mem_take h)
  ·exact .inr h
 ·exact .inl (List.mem_of_mem_drop h)
theorem zJt {n k:Nat} {v:AV} {sz:Nat} {cs:List AV} (h:CP n k v) (hc:cellsOf v sz=some cs):∀c∈cs,CP n k c:=by
 unfold cellsOf at hc;split at hc
 ·split at hc
  ·cases hc;exact h.cells
  ·cases hc
 ·cases hc
section
variable {G:Cx} {fr:Fr} {H:Heap} {m n k:Nat}
def GPP (G:Cx):Prop:=∀g v,G.glob g=some v->PP v
theorem zE (hG:GPP G) (hf:FrCP n k fr) {x:XV} (hx:xvOK x=true) {v:AV} (h:x.ev G fr=some v):CP n k v:=by
 cases x with
 | t k=>exact hf k v h
 | c u=>cases h;exact (zAt 12 hx).cp
 | g k=>exact (hG k v h).cp
theorem zD6 (hG:GPP G) (hf:FrCP n k fr):∀{xs:List XV} {vs:List AV},xs.all xvOK=true->evs G fr xs=some vs->∀v∈vs,CP n k v
 | [],vs,_,h,v,hv=>by cases h;cases hv
 | x::xs,vs,hx,h,v,hv=>by
  rw [List.all_cons,Bool.and_eq_true] at hx;simp only [evs] at h;split at h
  ·rename_i u hu;split at h
   ·rename_i us hus;cases h;rcases List.mem_cons.1 hv with rfl | hv
    ·exact zE hG hf hx.1 hu
    ·exact zD6 hG hf hx.2 hus v hv
   ·cases h
  ·cases h
theorem HCP.mono {n' k':Nat} (hn:n<=n') (hk:k<=k') (hH:HCP n k H):HCP n' k' H:=fun p hp=>let ⟨a,b,c,d⟩:=hH p hp;⟨a,b,c,fun x hx=>(d x hx).mono hn hk⟩
theorem FrCP.mono {n' k':Nat} (hn:n<=n') (hk:k<=k') (hf:FrCP n k fr):FrCP n' k' fr:=fun t v h=>(hf t v h).mono hn hk
theorem HCP.get (hH:HCP n k H) {h:Nat} {o:HO} (hg:H.get h=some o):∃str cs,o=.cells str cs/\∀c∈cs,CP n k c:=hH _ (Heap.mem_of_get hg)
theorem HCP.cons (hH:HCP n k H) {h:Nat} {str:Bool} {cs:List AV} (hc:∀c∈cs,CP n k c):HCP n k ((h,.cells str cs)::H):=fun p hp=>by
 rcases List.mem_cons.1 hp with rfl | hp
 ·exact ⟨str,cs,rfl,hc⟩
 ·exact hH p hp
theorem zCc:∀{H:Heap} {h:Nat} {o:HO} {p:Nat×HO},p∈H.put h o->p=(h,o)\/p∈H
 | (k,o')::r,h,o,p,hp=>by
  simp only [Heap.put] at hp;split at hp
  ·rename_i hb;rcases List.mem_cons.1 hp with rfl | hp
   ·rw [zb hb];exact .inl rfl
   ·exact .inr (.tail _ hp)
  ·rcases List.mem_cons.1 hp with rfl | hp
   ·exact .inr (.head _)
   ·exact (zCc hp).imp id (.tail _)
theorem HCP.put (hH:HCP n k H) {h:Nat} {str:Bool} {cs:List AV} (hc:∀c∈cs,CP n k c):HCP n k (H.put h (.cells str cs)):=fun p hp=>by
 rcases zCc hp with rfl | hp
 ·exact ⟨str,cs,rfl,hc⟩
 ·exact hH p hp
theorem zLP (hH:HCP n k H) {a v:AV} {sz:Nat} {ag:Bool} (ha:CP n k a) (h:xload H sz ag a=some v):CP n k v:=by
 cases ha with
 | ptr hh o=>
  simp only [xload] at h;split at h
  ·rename_i str cs hg;obtain ⟨_,_,e,hc⟩:=hH.get hg;cases e;exact zM4 hc h
  ·cases h
 | eptr e off he=>exact (zM5 he.cells h).cp
 | _=>cases h
theorem zHs (hG:GPP G) (hf:FrCP n k fr):∀{ps:List (Nat×Nat×XV)} {cs cs':List AV},(ps.all fun p=>xvOK p.2.2)=true->(∀c∈cs,CP n k c)->fillx G fr cs ps=some cs'->∀c∈cs',CP n k c
 | [],cs,cs',_,hc,h=>by cases h;exact hc
 | (off,sz,x)::r,cs,cs',hx,hc,h=>by
  rw [List.all_cons,Bool.and_eq_true] at hx;simp only [fillx] at h;split at h
  ·rename_i v hv;split at h
   ·rename_i new hn;split at h
    ·exact zHs hG hf hx.2 (fun c hm=>(zG1 hm).elim (hc c) (zJt (zE hG hf hx.1 hv) hn c)) h
    ·cases h
   ·cases h
  ·cases h
theorem zT8 {op:BinOp} {a b v:AV} (h:xbin op a b=some v):PP v:=by
 unfold xbin at h;split at h
 ·rename_i k a k' b;split at h
  ·split at h
   ·cases h
   ·cases h;exact .int _ _
  ·split at h
   ·cases h
   ·cases h;exact .int _ _
  ·split at h
   ·cases h
   ·split at h
    all_goals first
     | (cases h;exact .int _ _)
     | (split at h <;> first | (cases h;done) | (cases h;exact .int _ _))
     | (unfold xbits at h;split at h <;> first | (cases h;done) | (cases h;exact .int _ _))
     | (unfold xcmp at h;split at h <;> first | (cases h;done) | (cases h;exact .bool _))
 ·rename_i a b;split at h
  ·split at h
   ·cases h;exact .str _
   ·cases h
  all_goals first | (cases h;done) | (cases h;exact .bool _)
 ·cases h
theorem zVs {op:UnOp} {a v:AV} (h:xun op a=some v):PP v:=by
 unfold xun at h;split at h
 ·split at h
  ·cases h;exact .int _ _
  ·unfold xbits at h;cases h;exact .int _ _
  ·cases h
 ·split at h
  ·cases h;exact .bool _
  ·cases h
 ·cases h
def zIU:XO->Bool
 | .mov _ | .pick _ _ _ | .bin _ _ _ | .beq _ _ _ | .peq _ _ _ | .ieq _ _ _ _ _ | .seq _ _ _ | .meq _ _ _ | .feq _ _ _ | .un _ _ | .conv _ _ | .s2s _ | .idxb _ _ | .cntb _ _ | .fld _ _ _ _ | .ext _ _ | .idxA _ _ _ _ _
 | .box _ _ | .alloc _ | .build _ _ | .nilchk _ | .iaddrA _ _ _ _ | .lenS _ | .lenK _ | .lenL _ | .min _ _ | .max _ _ | .mkfunc _ _ _ | .mkif _ _ | .tas _ _ _ _ | .load _ _ _ | .store _ _ _ | .faddr _ _ | .bslice _ _ _ _ | .iaddrS _ _ _=>true
 | _=>false
theorem zKu {o:XO} (hd:zIU o=true) (ho:opOK o=true) (hG:GPP G) (hf:FrCP n m fr) (hH:HCP n m H) {v:AV} {H':Heap} {m':Nat} (h:xoS G ze fr H m o=some (v,H',m')):CP n m' v/\HCP n m' H':=by
 simp only [opOK,Bool.and_eq_true] at ho;obtain ⟨ho,hz⟩:=ho;cases o <;> first | (cases hd;done) | skip
 all_goals simp only [XO.opnds,List.all_cons,List.all_nil,List.all_append,Bool.and_true,Bool.and_eq_true] at ho
 all_goals simp only [xoS] at h
 case mov x=>
  split at h
  ·rename_i u hu;cases h;exact ⟨zE hG hf ho hu,hH⟩
  ·cases h
 case pick c a b=>
  split at h
  ·split at h
   ·rename_i u hu;cases h;exact ⟨zE hG hf ho.1.2 hu,hH⟩
   ·cases h
  ·split at h
   ·rename_i u hu;cases h;exact ⟨zE hG hf ho.2 hu,hH⟩
   ·cases h
  ·cases h
 case bin op x y=>
  split at h
  ·split at h
   ·rename_i u hu;cases h;exact ⟨(zT8 hu).cp,hH⟩
   ·cases h
  ·cases h
 case un op x=>
  split at h
  ·split at h
   ·rename_i u hu;cases h;exact ⟨(zVs hu).cp,hH⟩
   ·cases h
  ·cases h
 case fld x off sz ag=>
  split at h
  ·rename_i cs hx;have hc:=zE hG hf ho hx;cases hc with
   | agg _ hc=>
    split at h
    ·rename_i u hu;cases h;exact ⟨zM4 hc hu,hH⟩
    ·cases h
  ·cases h
 case ext x i=>
  split at h
  ·rename_i vs hx;have hc:=zE hG hf ho hx;cases hc with
   | tup _ hc=>
    split at h
    ·rename_i u hu;cases h;exact ⟨hc _ (List.mem_of_getElem? hu),hH⟩
    ·cases h
  ·cases h
 case idxA x i len sz ag=>
  split at h
  ·rename_i cs iv hx _;have hc:=zE hG hf ho.1 hx;cases hc with
   | agg _ hc=>
    split at h
    ·split at h
     ·rename_i u hu;cases h;exact ⟨zM4 hc hu,hH⟩
     ·cases h
    ·cases h
  ·cases h
 case box x sz=>
  split at h
  ·rename_i u hu;split at h
   ·rename_i cs hcs;cases h;exact ⟨.ptr _ _ (Nat.lt_succ_self _),HCP.cons (hH.mono (Nat.le_refl _) (Nat.le_succ _)) fun c hc=>(zJt (zE hG hf ho hu) hcs c hc).mono (Nat.le_refl _) (Nat.le_succ _)⟩
   ·cases h
  ·cases h
 case alloc z=>
  cases h;have hz:z.all (z7 12)=true:=hz;exact ⟨.ptr _ _ (Nat.lt_succ_self _),HCP.cons (hH.mono (Nat.le_refl _) (Nat.le_succ _)) fun c hc=>(zAt 12 (List.all_eq_true.1 hz c hc)).cp⟩
 case build z ps=>
  have hz:z.all (z7 12)=true:=hz;split at h
  ·rename_i cs hcs;cases h;refine ⟨.agg _ (zHs hG hf ?_ (fun c hc=>(zAt 12 (List.all_eq_true.1 hz c hc)).cp) hcs),hH⟩
   simpa [List.all_map] using ho
  ·cases h
 case bslice len sz z ps=>
  have hz:z.all (z7 12)=true:=hz;split at h
  ·rename_i cs hcs;cases h;exact ⟨.row _ _ _ _ _ _ (Nat.lt_succ_self _),HCP.cons (hH.mono (Nat.le_refl _) (Nat.le_succ _)) fun c hc=>(zHs hG hf (by simpa [List.all_map] using ho) (fun c hc=>(zAt 12 (List.all_eq_true.1 hz c hc)).cp) hcs c hc).mono (Nat.le_refl _) (Nat.le_succ _)⟩
  ·cases h
 case load x sz ag=>
  split at h
  ·rename_i a hx;split at h
   ·rename_i u hu;cases h;exact ⟨zLP hH (zE hG hf ho hx) hu,hH⟩
   ·cases h
  ·cases h
 case store a x sz=>
  split at h
  ·rename_i hh off u ha hx;split at h
   ·rename_i str cs hg;split at h
    ·rename_i new hn;split at h
     ·cases h;obtain ⟨_,_,e,hc⟩:=hH.get hg;cases e;exact ⟨.tup _ (fun c hc=>by cases hc),hH.put fun c hm=>(zG1 hm).elim (hc c) (zJt (zE hG hf ho.2 hx) hn c)⟩
     ·cases h
    ·cases h
   ·cases h
  ·cases h
 case nilchk x=>
  split at h <;> first | (cases h;done) | (rename_i hx;cases h;exact ⟨zE hG hf ho hx,hH⟩)
 case faddr x off=>
  split at h
  ·rename_i hx;have hc:=zE hG hf ho hx;cases hc with
   | ptr _ _ hk=>cases h;exact ⟨.ptr _ _ hk,hH⟩
  ·rename_i e o hx;have hc:=zE hG hf ho hx;cases hc with
   | eptr _ _ he=>cases h;exact ⟨.eptr _ _ he,hH⟩
  ·cases h
 case iaddrS x i sz=>
  split at h
  ·rename_i sz' es iv hx _;have hc:=zE hG hf ho.1 hx;cases hc with
   | lst _ _ hes=>
    split at h
    ·split at h
     ·rename_i e he;cases h;refine ⟨.eptr _ _ (hes e ?_),hH⟩
      unfold idx at he;split at he
      ·exact List.mem_of_getElem? he
      ·cases he
     ·cases h
    ·cases h
  ·rename_i hx _;have hc:=zE hG hf ho.1 hx;cases hc with
   | row _ _ _ _ _ _ hk=>
    split at h
    ·split at h
     ·cases h;exact ⟨.ptr _ _ hk,hH⟩
     ·cases h
    ·cases h
  ·cases h
 case iaddrA x i len sz=>
  split at h
  ·rename_i hx _;have hc:=zE hG hf ho.1 hx;cases hc with
   | ptr _ _ hk=>
    split at h
    ·cases h;exact ⟨.ptr _ _ hk,hH⟩
    ·cases h
  ·rename_i e o iv hx _;have hc:=zE hG hf ho.1 hx;cases hc with
   | eptr _ _ he=>
    split at h
    ·cases h;exact ⟨.eptr _ _ he,hH⟩
    ·cases h
  ·cases h
 case mkfunc fn first caps=>
  split at h
  ·rename_i a b ha hb;cases h;exact ⟨.func _ _ _ (zD6 hG hf ho.1 ha) (zD6 hG hf ho.2 hb),hH⟩
  ·cases h
 case mkif t x=>
  split at h
  ·rename_i u hu;cases h;exact ⟨.iface _ _ (zE hG hf ho hu),hH⟩
  ·cases h
 case tas x t ok z=>
  have hz:z7 12 z=true:=hz;have hzc:CP n m z:=(zAt 12 hz).cp;split at h
  ·rename_i u w hx;have hc:=zE hG hf ho hx;cases hc with
   | iface _ _ hw=>
    split at h
    ·cases h;refine ⟨?_,hH⟩
     split
     ·exact .tup _ fun c hc=>by
       simp only [List.mem_cons,List.not_mem_nil,or_false] at hc;rcases hc with rfl | rfl
       ·exact hw
       ·exact .bool _
     ·exact hw
    ·split at h
     ·cases h;exact ⟨.tup _ fun c hc=>by
       simp only [List.mem_cons,List.not_mem_nil,or_false] at hc;rcases hc with rfl | rfl
       ·exact hzc
       ·exact .bool _,hH⟩
     ·cases h
  ·split at h
   ·cases h;exact ⟨.tup _ fun c hc=>by
     simp only [List.mem_cons,List.not_mem_nil,or_false] at hc;rcases hc with rfl | rfl
     ·exact hzc
     ·exact .bool _,hH⟩
   ·cases h
  ·cases h
 all_goals
  (repeat' split at h) <;> first
   | (cases h;done)
   | (cases h;exact ⟨by first | exact .bool _ | exact .int _ _ | exact .str _ | (unfold bneg;exact .bool _),hH⟩)
end
end Go.Sy
namespace Go.Sy
section
variable {E E':Env} {w w':World}
theorem VR.pp (hZ:∀b,E.Z b->E'.Z b/\w'.heap[b]? = w.heap[b]?) {v:AV} {cv:Value} (h:VR E w v cv):PP v->VR E' w' v cv:=by
 induction h with
 | bool b=>intro _;exact .bool b
 | int k n h=>intro _;exact .int k n h
 | str l s h hl=>intro _;exact .str l s h hl
 | nilptr=>intro _;exact .nilptr
 | ptr h off hd=>intro hp;cases hp
 | eptr e off b o cv hfl hz _ hc ih=>
  intro hp;cases hp with
  | eptr _ _ he=>exact .eptr e off b o cv hfl (hZ b hz).1 (ih he) fun j c hj=>by rw [zCu (hZ b hz).2];exact hc j c hj
 | nilslice=>intro _;exact .nilslice
 | lst0 sz a c hc=>intro _;exact .lst0 sz a c hc
 | lst es b o cap sz f hz hcap hcm hfl _ hc ih=>
  intro hp;cases hp with
  | lst _ _ he=>exact .lst es b o cap sz f (hZ b hz).1 hcap hcm hfl (fun i e hi=>ih i e hi (he e (List.mem_of_getElem? hi))) fun i hi=>⟨(hc i hi).1,fun j c hj=>by rw [zCu (hZ b hz).2];exact (hc i hi).2 j c hj⟩
 | row h off len sz cp cap ex hd hlen hcap hsz hcp hex hb=>intro hp;cases hp
 | row0 h off sz ex a=>intro hp;cases hp
 | nilmap=>intro _;exact .nilmap
 | map h hd=>intro hp;cases hp
 | nilfunc=>intro _;exact .nilfunc
 | func fn f c vf vc hf hc _ _ rf rc=>
  intro hp;cases hp with
  | func _ _ _ ha hb=>exact .func fn f c vf vc hf hc (fun i x v hx hv=>rf i x v hx hv (ha x (List.mem_of_getElem? hx))) (fun i x v hx hv=>rc i x v hx hv (hb x (List.mem_of_getElem? hx)))
 | niliface=>intro _;exact .niliface
 | iface t v cv _ ih=>intro hp;cases hp with | iface _ _ hv=>exact .iface t v cv (ih hv)
 | agg cs vs hl _ h1 ih=>intro hp;cases hp with | agg _ hc=>exact .agg cs vs hl (fun i x v hx hv=>ih i x v hx hv (hc x (List.mem_of_getElem? hx))) h1
 | tup cs vs hl _ ih=>intro hp;cases hp with | tup _ hc=>exact .tup cs vs hl (fun i x v hx hv=>ih i x v hx hv (hc x (List.mem_of_getElem? hx)))
 | sym i cv he h1=>intro hp;cases hp
theorem VR.cpx {n k:Nat} (hD:∀h,h<k->E.D h->E'.D h/\E'.ρ h=E.ρ h) (hZ:∀b,E.Z b->E'.Z b/\w'.heap[b]? = w.heap[b]?) (hS:Shapes w w') (hσ:∀i,i<n->E'.σ i=E.σ i) {v:AV} {cv:Value} (h:VR E w v cv):CP n k v->VR E' w' v cv:=by
 induction h with
 | bool b=>intro _;exact .bool b
 | int k n h=>intro _;exact .int k n h
 | str l s h hl=>intro _;exact .str l s h hl
 | nilptr=>intro _;exact .nilptr
 | ptr h off hd=>
  intro hp;cases hp with
  | ptr _ _ hk=>rw [←(hD h hk hd).2];exact .ptr h off (hD h hk hd).1
 | eptr e off b o cv hfl hz hv hc ih=>
  intro hp;cases hp with
  | eptr _ _ he=>exact .eptr e off b o cv hfl (hZ b hz).1 (hv.pp hZ he) fun j c hj=>by rw [zCu (hZ b hz).2];exact hc j c hj
 | nilslice=>intro _;exact .nilslice
 | lst0 sz a c hc=>intro _;exact .lst0 sz a c hc
 | lst es b o cap sz f hz hcap hcm hfl hv hc ih=>
  intro hp;cases hp with
  | lst _ _ he=>exact .lst es b o cap sz f (hZ b hz).1 hcap hcm hfl (fun i e hi=>(hv i e hi).pp hZ (he e (List.mem_of_getElem? hi))) fun i hi=>⟨(hc i hi).1,fun j c hj=>by rw [zCu (hZ b hz).2];exact (hc i hi).2 j c hj⟩
 | row h off len sz cp cap ex hd hlen hcap hsz hcp hex hb=>
  intro hp;cases hp with
  | row _ _ _ _ _ _ hk=>
   obtain ⟨c,e,f,h1,h2⟩:=hb;obtain ⟨c',f',k1,k2⟩:=hS _ c e f h1;rw [←(hD h hk hd).2];exact .row h off len sz cp cap ex (hD h hk hd).1 hlen hcap hsz hcp hex ⟨c',e,f',by rw [(hD h hk hd).2];exact k1,by omega⟩
 | row0 h off sz ex a=>intro _;exact .row0 h off sz ex a
 | nilmap=>intro _;exact .nilmap
 | map h hd=>intro hp;cases hp with | map _ hk=>rw [←(hD h hk hd).2];exact .map h (hD h hk hd).1
 | nilfunc=>intro _;exact .nilfunc
 | func fn f c vf vc hf hc _ _ rf rc=>
  intro hp;cases hp with
  | func _ _ _ ha hb=>exact .func fn f c vf vc hf hc (fun i x v hx hv=>rf i x v hx hv (ha x (List.mem_of_getElem? hx))) (fun i x v hx hv=>rc i x v hx hv (hb x (List.mem_of_getElem? hx)))
 | niliface=>intro _;exact .niliface
 | iface t v cv _ ih=>intro hp;cases hp with | iface _ _ hv=>exact .iface t v cv (ih hv)
 | agg cs vs hl _ h1 ih=>intro hp;cases hp with | agg _ hc=>exact .agg cs vs hl (fun i x v hx hv=>ih i x v hx hv (hc x (List.mem_of_getElem? hx))) h1
 | tup cs vs hl _ ih=>intro hp;cases hp with | tup _ hc=>exact .tup cs vs hl (fun i x v hx hv=>ih i x v hx hv (hc x (List.mem_of_getElem? hx)))
 | sym i cv he h1=>intro hp;cases hp with | sym _ hi=>exact .sym i cv (he.trans (hσ i hi).symm) h1
end
def RowV (w:World) (b len sz cp:Nat) (ex:Bool) (cv:Value):Prop:=
 (∃a,cv=.slice (some a) 0 0/\len=0/\cp=0) ∨
 ∃cap,cv=.slice (some ⟨b,0,none⟩) len cap/\len<=cap/\cap<=zf/\0<sz/\cp<=cap/\(ex=true->cap=cp)/\∃c e f,w.heap[b]? = some (.cells c e f)/\0+cap*sz<=c.size
section
variable {E E':Env} {w w':World}
theorem RowV.of_vr {h len sz cp:Nat} {ex:Bool} {cv:Value} (hv:VR E w (.row h 0 len sz cp ex) cv):RowV w (E.ρ h) len sz cp ex cv:=by
 cases hv with
 | row _ _ _ _ _ cap _ hd hlen hcap hsz hcp hex hb=>exact .inr ⟨cap,rfl,hlen,hcap,hsz,hcp,hex,hb⟩
 | row0 _ _ _ _ a=>exact .inl ⟨a,rfl,rfl,rfl⟩
theorem RowV.vr {b h len sz cp:Nat} {ex:Bool} {cv:Value} (hv:RowV w b len sz cp ex cv) (hb:E.ρ h=b) (hd:E.D h):VR E w (.row h 0 len sz cp ex) cv:=by
 subst hb;rcases hv with ⟨a,rfl,rfl,rfl⟩ | ⟨cap,rfl,hlen,hcap,hsz,hcp,hex,hb⟩
 ·exact .row0 _ _ _ _ _
 ·exact .row _ _ _ _ _ _ _ hd hlen hcap hsz hcp hex hb
theorem RowV.mono {b len sz cp:Nat} {ex:Bool} {cv:Value} (hv:RowV w b len sz cp ex cv) (hS:Shapes w w'):RowV w' b len sz cp ex cv:=by
 rcases hv with h | ⟨cap,h1,h2,h3,h4,h5,h6,c,e,f,h7,h8⟩
 ·exact .inl h
 ·obtain ⟨c',f',k1,k2⟩:=hS _ c e f h7;exact .inr ⟨cap,h1,h2,h3,h4,h5,h6,c',e,f',k1,by omega⟩
theorem RowV.one {b len sz cp:Nat} {ex:Bool} {cv:Value} (hv:RowV w b len sz cp ex cv):cv.oneCell'=true:=by
 rcases hv with ⟨a,rfl,_⟩ | ⟨cap,rfl,_⟩ <;> rfl
theorem OR.pp {b:Nat} {str:Bool} {cs:List AV} (hb:w'.heap[b]? = w.heap[b]?) (hZ:∀b,E.Z b->E'.Z b/\w'.heap[b]? = w.heap[b]?) (hp:∀c∈cs,PP c) (h:OR E w b (.cells str cs)):OR E' w' b (.cells str cs):=by
 obtain ⟨c,e,f,h1,h2,h3,h4⟩:=h;exact ⟨c,e,f,hb.trans h1,h2,h3,fun i x hx=>let ⟨v,a,b,d⟩:=h4 i x hx;⟨v,a,b,d.pp hZ (hp x (List.mem_of_getElem? hx))⟩⟩
theorem OR.cpx {n k b:Nat} {str:Bool} {cs:List AV} (hb:w'.heap[b]? = w.heap[b]?) (hm:∀{v cv},CP n k v->VR E w v cv->VR E' w' v cv) (hp:∀c∈cs,CP n k c) (h:OR E w b (.cells str cs)):OR E' w' b (.cells str cs):=by
 obtain ⟨c,e,f,h1,h2,h3,h4⟩:=h;exact ⟨c,e,f,hb.trans h1,h2,h3,fun i x hx=>let ⟨v,a,b,d⟩:=h4 i x hx;⟨v,a,b,hm (hp x (List.mem_of_getElem? hx)) d⟩⟩
theorem OR.pm {b:Nat} {es:List (AV×AV)} (hb:w'.heap[b]? = w.heap[b]?) (hZ:∀b,E.Z b->E'.Z b/\w'.heap[b]? = w.heap[b]?) (hp:∀p∈es,PP p.1/\PP p.2) (h:OR E w b (.map es)):OR E' w' b (.map es):=by
 obtain ⟨c,clock,h1,h2,h3,h4⟩:=h;exact ⟨c,clock,hb.trans h1,h2,fun i k x hx=>let ⟨m,a,b,d,e⟩:=h3 i k x hx;⟨m,a,b.pp hZ (hp _ (List.mem_of_getElem? hx)).1,d.pp hZ (hp _ (List.mem_of_getElem? hx)).2,e⟩,h4⟩
end
def VI.owns:VI->Bool
 | .vptr _ _ _=>false
 | _=>true
def VOK (E:Env) (w:World) (V:Vecs) (β:Nat->Option Nat) (j:Nat):VI->Prop
 | .vec sz es=>(∀e∈es,PP e)/\((β j=none/\E.σ j=.slice none 0 0/\es=[]) ∨
   ∃b str cs cp ex,β j=some b/\OR E w b (.cells str cs)/\RowV w b es.length sz cp ex (E.σ j)/\(∀c∈cs,PP c)/\es.length*sz<=cs.length/\flatten sz es=some (cs.take (es.length*sz)))
 | .mp es=>(∀p∈es,PP p.1/\PP p.2)/\∃b,β j=some b/\OR E w b (.map es)/\E.σ j=.map (some b)
 | .vptr j2 i off=>∀sz es,V.get j2=some (.vec sz es)->i<es.length/\∃b,β j2=some b/\E.σ j=.pointer (some ⟨b,i*sz+off,none⟩)
def BS (E:Env) (β:Nat->Option Nat) (H:Heap) (V:Vecs) (x:Nat):Prop:=(∃p∈H,E.ρ p.1=x)\/∃j vi,V.get j=some vi/\vi.owns=true/\β j=some x
structure Kp (Z B:Nat->Prop) (w:World) (Z' B':Nat->Prop) (w':World):Prop where
 zmono:∀x,Z x->Z' x
 znew:∀x,Z' x->Z x\/B x\/w.heap.size<=x
 own:∀x,B' x->B x\/w.heap.size<=x
 tape:w'.tape=w.tape
 os:w'.os=w.os
 output:w'.output=w.output
 size:w.heap.size<=w'.heap.size
 old:∀x,x<w.heap.size->¬B x->w'.heap[x]? = w.heap[x]?
 shapes:Shapes w w'
theorem Kp.refl {Z B:Nat->Prop} {w:World}:Kp Z B w Z B w:=⟨fun _ h=>h,fun _ h=>.inl h,fun _ h=>.inl h,rfl,rfl,rfl,Nat.le_refl _,fun _ _ _=>rfl,.refl w⟩
theorem Kp.less {Z B B':Nat->Prop} {w:World} (h:∀x,B' x->B x):Kp Z B w Z B' w:=⟨fun _ h=>h,fun _ h=>.inl h,fun x hx=>.inl (h x hx),rfl,rfl,rfl,Nat.le_refl _,fun _ _ _=>rfl,.refl w⟩
theorem Kp.trans {Z B Z1 B1 Z2 B2:Nat->Prop} {w w1 w2:World} (h:Kp Z B w Z1 B1 w1) (k:Kp Z1 B1 w1 Z2 B2 w2):Kp Z B w Z2 B2 w2 where
 zmono x hx:=k.zmono x (h.zmono x hx)
 znew x hx:=by
  rcases k.znew x hx with a | a | a
  ·exact h.znew x a
  ·rcases h.own x a with b | b
   ·exact .inr (.inl b)
   ·exact .inr (.inr b)
  ·exact .inr (.inr (Nat.le_trans h.size a))
 own x hx:=by
  rcases k.own x hx with a | a
  ·exact h.own x a
  ·exact .inr (Nat.le_trans h.size a)
 tape:=k.tape.trans h.tape
 os:=k.os.trans h.os
 output:=k.output.trans h.output
 size:=Nat.le_trans h.size k.size
 old x hx hb:=(k.old x (Nat.lt_of_lt_of_le hx h.size) fun h1=>(h.own x h1).elim hb fun h2=>by omega).trans (h.old x hx hb)
 shapes:=h.shapes.trans k.shapes
structure SR (G:Cx) (nt:Nat) (E:Env) (w:World) (a:Act) (β:Nat->Option Nat) (st:Sta):Prop where
 hr:HR E st.H w
 hf:FrR E w st.fr a nt
 hg:GR G E w
 dom:∀h,E.D h->h<st.m
 cfr:FrCP st.mv st.m st.fr
 cH:HCP st.mv st.m st.H
 vok:∀j vi,st.V.get j=some vi->j<st.mv/\VOK E w st.V β j vi
 vp:∀j j2 i off,st.V.get j=some (.vptr j2 i off)->j2<st.mv
 bz:∀j vi b,st.V.get j=some vi->vi.owns=true->β j=some b->¬E.Z b/\∀p∈st.H,E.ρ p.1≠b
 binj:∀j j' vi vi' b,st.V.get j=some vi->st.V.get j'=some vi'->vi.owns=true->vi'.owns=true->β j=some b->β j'=some b->j=j'
section
variable {P:Program} {G:Cx} {nt:Nat} {E:Env} {w:World} {a:Act} {β:Nat->Option Nat} {st:Sta}
theorem VOK.lt {V:Vecs} {j:Nat} {vi:VI} {b:Nat} (h:VOK E w V β j vi) (ho:vi.owns=true) (hb:β j=some b):b<w.heap.size:=by
 cases vi with
 | vec sz es=>
  obtain ⟨_,⟨h1,_⟩ | ⟨b',str,cs,cp,ex,h1,h2,_⟩⟩:=h
  ·rw [h1] at hb;cases hb
  ·rw [h1] at hb;cases hb;exact h2.lt
 | mp es=>
  obtain ⟨_,b',h1,h2,_⟩:=h;rw [h1] at hb;cases hb;exact h2.lt
 | vptr=>cases ho
theorem VOK.mono {E':Env} {w':World} {V V':Vecs} {β':Nat->Option Nat} {j:Nat} {vi:VI} (h:VOK E w V β j vi) (hσ:E'.σ j=E.σ j) (hβ:vi.owns=true->β' j=β j) (hb:∀b,vi.owns=true->β j=some b->w'.heap[b]? = w.heap[b]?)
  (hZ:∀b,E.Z b->E'.Z b/\w'.heap[b]? = w.heap[b]?) (hS:Shapes w w') (hV:∀j2 i off,vi=.vptr j2 i off->∀sz es,V'.get j2=some (.vec sz es)->β' j2=β j2/\∃es',V.get j2=some (.vec sz es')/\es'.length=es.length):VOK E' w' V' β' j vi:=by
 cases vi with
 | vec sz es=>
  obtain ⟨hp,⟨h1,h2,h3⟩ | ⟨b,str,cs,cp,ex,h1,h2,h3,h4,h5,h6⟩⟩:=h
  ·exact ⟨hp,.inl ⟨(hβ rfl).trans h1,hσ.trans h2,h3⟩⟩
  ·exact ⟨hp,.inr ⟨b,str,cs,cp,ex,(hβ rfl).trans h1,h2.pp (hb b rfl h1) hZ h4,by rw [hσ];exact h3.mono hS,h4,h5,h6⟩⟩
 | mp es=>
  obtain ⟨hp,b,h1,h2,h3⟩:=h;exact ⟨hp,b,(hβ rfl).trans h1,h2.pm (hb b rfl h1) hZ hp,hσ.trans h3⟩
 | vptr j2 i off=>
  intro sz es hes;obtain ⟨e1,es',e2,e3⟩:=hV j2 i off rfl sz es hes;obtain ⟨h0,b,h1,h2⟩:=h sz es' e2;exact ⟨e3▸h0,b,e1.trans h1,hσ.trans h2⟩
theorem FrCP.putd {n k:Nat} {fr:Fr} (hf:FrCP n k fr) {d:Option Nat} {v:AV} (hv:CP n k v):FrCP n k (putd fr d v):=by
 cases d with
 | none=>exact hf
 | some t=>
  intro u x hx;simp only [zNt,Fr.get_put] at hx;split at hx
  ·cases hx;exact hv
  ·exact hf u x hx
theorem SR.step (s:SR G nt E w a β st) {E':Env} {w':World} {H':Heap} {m':Nat} {d:Option Nat} {v:AV} {cv:Value} (hr':HR E' H' w') (t:Tr E st.H w E' H' w' st.m m') (hv:VR E' w' v cv) (hcv:CP st.mv m' v) (hcH:HCP st.mv m' H') (hd:∀n,d=some n->n<nt):
  SR G nt E' w' (a.put d cv) β ⟨putd st.fr d v,H',st.V,m',st.mv⟩/\Kp E.Z (BS E β st.H st.V) w E'.Z (BS E' β H' st.V) w':=by
 have hold:∀b,E.Z b->E'.Z b/\w'.heap[b]? = w.heap[b]?:=fun b hb=>⟨t.zmono b hb,t.old b (s.hr.zlt b hb) fun p hp e=>s.hr.nz p hp (e▸hb)⟩
 have hblk:∀j vi b,st.V.get j=some vi->vi.owns=true->β j=some b->b<w.heap.size/\w'.heap[b]? = w.heap[b]?:=fun j vi b h1 h2 h3=>by
  have h4:=(s.vok j vi h1).2.lt h2 h3;exact ⟨h4,t.old b h4 fun p hp e=>(s.bz j vi b h1 h2 h3).2 p hp e⟩
 refine ⟨⟨hr',s.hf.put (t.vr s.hr) hd hv,s.hg.step s.hr t,fun h hh=>?_,(s.cfr.mono (Nat.le_refl _) t.le).putd hcv,hcH,fun j vi h1=>⟨(s.vok j vi h1).1,?_⟩,s.vp,fun j vi b h1 h2 h3=>⟨fun hz=>?_,fun p hp e=>?_⟩,s.binj⟩,?_⟩
 ·rcases (t.dom h).1 hh with h1 | h1
  ·exact Nat.lt_of_lt_of_le (s.dom h h1) t.le
  ·exact h1.2
 ·exact (s.vok j vi h1).2.mono (congrFun t.sig j) (fun _=>rfl) (fun b ho hb=>(hblk j vi b h1 ho hb).2) hold t.shapes fun _ _ _ _ sz es h=>⟨rfl,es,h,rfl⟩
 ·have h4:=s.bz j vi b h1 h2 h3;rcases t.znew b hz with h5 | ⟨p,hp,e⟩ | h5
  ·exact h4.1 h5
  ·exact h4.2 p hp e
  ·have:=(hblk j vi b h1 h2 h3).1;omega
 ·have h4:=s.bz j vi b h1 h2 h3;rcases t.own p hp with ⟨q,hq,e'⟩ | h5
  ·exact h4.2 q hq (e'.trans e)
  ·have:=(hblk j vi b h1 h2 h3).1;omega
 ·refine ⟨t.zmono,fun x hx=>?_,fun x hx=>?_,t.tape,t.os,t.output,t.size,fun x hx hb=>t.old x hx fun p hp e=>hb (.inl ⟨p,hp,e⟩),t.shapes⟩
  ·rcases t.znew x hx with h | h | h
   ·exact .inl h
   ·exact .inr (.inl (.inl h))
   ·exact .inr (.inr h)
  ·rcases hx with ⟨p,hp,rfl⟩ | h
   ·rcases t.own p hp with ⟨q,hq,e⟩ | h
    ·exact .inl (.inl ⟨q,hq,e⟩)
    ·exact .inr h
   ·exact .inl (.inr h)
end
end Go.Sy
namespace Go.Sy
theorem Vecs.get_cons {V:Vecs} {k j:Nat} {o:VI}:Vecs.get ((k,o)::V) j=if k=j then some o else V.get j:=by
 simp only [Vecs.get];by_cases h:k=j
 ·subst h;have:Nat.beq k k=true:=Nat.beq_refl k;simp [this]
 ·have:Nat.beq k j=false:=by
   cases hb:Nat.beq k j with
   | false=>rfl
   | true=>exact absurd (zb hb) h
  simp [this,h]
theorem Vecs.get_del:∀{V:Vecs} {k j:Nat},(V.del k).get j=if k=j then none else V.get j
 | [],k,j=>by simp [Vecs.del,Vecs.get]
 | (i,o)::r,k,j=>by
  simp only [Vecs.del];cases hb:Nat.beq i k with
  | true=>
   have:=zb hb;subst this;simp only [Vecs.get_del,Vecs.get_cons];split <;> rfl
  | false=>
   have hne:=zAg hb;simp only [Vecs.get_cons,Vecs.get_del];by_cases h1:i=j
   ·subst h1;have:¬k=i:=fun e=>hne e.symm
    simp [this]
   ·simp [h1]
abbrev XB:=Option (Nat×HO)
def extE (E:Env) (m:Nat):XB->Env
 | none=>E
 | some (b,_)=>⟨fun h=>if h=m then b else E.ρ h,fun h=>E.D h\/h=m,E.Z,E.σ⟩
def extH (H:Heap) (m:Nat):XB->Heap
 | none=>H
 | some (_,o)=>(m,o)::H
def extN (m:Nat):XB->Nat
 | none=>m
 | some _=>m+1
def zr (E E':Env) (mv:Nat) (x:Value):Env:=⟨E.ρ,E.D,E'.Z,fun i=>if i=mv then x else E.σ i⟩
structure OutW (G:Cx) (E:Env) (w:World) (st:Sta) (xb:XB) (E':Env) (w':World) (H':Heap) (v:AV) (cv:Value):Prop where
 hr':HR E' H' w'
 hv:VR E' w' v cv
 agree:∀h,E.D h->E'.ρ h=E.ρ h
 at_m:∀b o,xb=some (b,o)->E'.ρ st.m=b
 dom':∀h,h<st.m->E'.D h->E.D h
 zold:∀z,E.Z z->E'.Z z/\w'.heap[z]? = w.heap[z]?
 znew:∀z,E'.Z z->E.Z z\/(∃p∈st.H,E.ρ p.1=z)\/(∃b o,xb=some (b,o)/\z=b)\/w.heap.size<=z
 own:∀p∈H',(∃q∈st.H,E.ρ q.1=E'.ρ p.1)\/(∃b o,xb=some (b,o)/\E'.ρ p.1=b)\/w.heap.size<=E'.ρ p.1
 old:∀x,x<w.heap.size->¬(∃p∈st.H,E.ρ p.1=x)->(∀b o,xb=some (b,o)->x≠b)->w'.heap[x]? = w.heap[x]?
 tape:w'.tape=w.tape
 os:w'.os=w.os
 output:w'.output=w.output
 size:w.heap.size<=w'.heap.size
 shapes:Shapes w w'
 sig:E'.σ=E.σ
 back:∀x,HR (zr E E' st.mv x) st.H w'
 conv:∀x {v c},CP st.mv st.m v->VR E w v c->VR (zr E E' st.mv x) w' v c
 gr:∀x,GR G (zr E E' st.mv x) w'
section
variable {P:Program} {G:Cx} {nt:Nat} {E:Env} {w:World} {a:Act} {β:Nat->Option Nat} {st:Sta}
theorem zH8 (s:SR G nt E w a β st) {xb:XB} {v:AV} {cv:Value} (h:VR E w v cv):VR (extE E st.m xb) w v cv:=by
 cases xb with
 | none=>exact h
 | some p=>
  refine VR.mono (E:=E) (E':=extE E st.m (some p)) (fun h hh=>⟨Or.inl hh,?_⟩) (fun b hb=>⟨hb,rfl⟩) (.refl w) h
  have:h≠st.m:=by have:=s.dom h hh;omega
  simp [extE,this]
theorem zT9 (s:SR G nt E w a β st) {xb:XB} (hxb:∀b o,xb=some (b,o)->OR E w b o/\¬E.Z b/\∀p∈st.H,E.ρ p.1≠b):HR (extE E st.m xb) (extH st.H st.m xb) w:=by
 cases xb with
 | none=>exact s.hr
 | some p=>
  obtain ⟨b,o⟩:=p;obtain ⟨h1,h2,h3⟩:=hxb b o rfl;have hne:∀p∈st.H,p.1≠st.m:=fun p hp=>by have:=s.dom p.1 (s.hr.dom p hp);omega
  have hρ:∀p∈st.H,(extE E st.m (some (b,o))).ρ p.1=E.ρ p.1:=fun p hp=>by simp [extE,hne p hp]
  have hm:(extE E st.m (some (b,o))).ρ st.m=b:=by simp [extE]
  refine ⟨List.nodup_cons.2 ⟨fun hm=>?_,s.hr.nodup⟩,fun p hp=>?_,fun p hp q hq e=>?_,fun p hp=>?_,fun p hp=>?_,s.hr.zlt⟩
  ·obtain ⟨p,hp,e⟩:=List.mem_map.1 hm;exact hne p hp e
  ·rcases List.mem_cons.1 hp with rfl | hp
   ·exact .inr rfl
   ·exact .inl (s.hr.dom p hp)
  ·rcases List.mem_cons.1 hp with rfl | hp
   ·rcases List.mem_cons.1 hq with rfl | hq
    ·rfl
    ·rw [hm,hρ q hq] at e;exact absurd e.symm (h3 q hq)
   ·rcases List.mem_cons.1 hq with rfl | hq
    ·rw [hρ p hp,hm] at e;exact absurd e (h3 p hp)
    ·rw [hρ p hp,hρ q hq] at e;exact s.hr.inj p hp q hq e
  ·rcases List.mem_cons.1 hp with rfl | hp
   ·rw [hm];exact h1.mono rfl (zH8 s)
   ·rw [hρ p hp];exact (s.hr.obj p hp).mono rfl (zH8 s)
  ·rcases List.mem_cons.1 hp with rfl | hp
   ·rw [hm];exact h2
   ·rw [hρ p hp];exact s.hr.nz p hp
theorem zRv (s:SR G nt E w a β st) (hG:GPP G) (hm:zAi P G) {xb:XB} (hxb:∀b o,xb=some (b,o)->OR E w b o/\¬E.Z b/\∀p∈st.H,E.ρ p.1≠b) {fr':Fr} (hf':FrR (extE E st.m xb) w fr' a nt)
  {o:Oper} {xop:XO} (hc:zAA P o.op=some xop) {v:AV} {H':Heap} {n':Nat} (hx:xoS G ze fr' (extH st.H st.m xb) (extN st.m xb) xop=some (v,H',n')) (hH:∀p∈st.H,p∈H'):
  ∀next Q,(∀cv E' w',OutW G E w st xb E' w' H' v cv->next (a.put o.dst cv) w')->o.wp P a w next Q:=by
 intro next Q hn;have hr1:=zT9 s hxb;have hg1:GR G (extE E st.m xb) w:=fun g u h=>⟨zH8 s (s.hg g u h).1,(s.hg g u h).2⟩
 have hfresh:Fresh (extE E st.m xb) (extN st.m xb) n':=by
  intro h h1 h2 hD;cases xb with
  | none=>have:=s.dom h hD;have h1:st.m<=h:=h1;omega
  | some p=>
   have h1:st.m+1<=h:=h1;rcases hD with hD | hD
   ·have:=s.dom h hD;omega
   ·omega
 refine zFr hr1 hf' hg1 hm zDL hc hfresh hx next Q fun cv E' w' k1 k2 k3=>hn cv E' w' ?_
 have hZ1:(extE E st.m xb).Z=E.Z:=by cases xb <;> rfl
 have hσ1:(extE E st.m xb).σ=E.σ:=by cases xb <;> rfl
 have hD1:∀h,E.D h->(extE E st.m xb).D h/\(extE E st.m xb).ρ h=E.ρ h:=fun h hh=>by
  cases xb with
  | none=>exact ⟨hh,rfl⟩
  | some p=>
   have:h≠st.m:=by have:=s.dom h hh;omega
   exact ⟨.inl hh,by simp [extE,this]⟩
 have hagree:∀h,E.D h->E'.ρ h=E.ρ h:=fun h hh=>(k2.agree h (hD1 h hh).1).trans (hD1 h hh).2
 have hblk:∀x,(∃p∈extH st.H st.m xb,(extE E st.m xb).ρ p.1=x)->(∃p∈st.H,E.ρ p.1=x)\/∃b o,xb=some (b,o)/\x=b:=by
  rintro x ⟨p,hp,e⟩
  cases xb with
  | none=>exact .inl ⟨p,hp,e⟩
  | some q=>
   obtain ⟨b,o⟩:=q;rcases List.mem_cons.1 hp with rfl | hp
   ·exact .inr ⟨b,o,rfl,by simpa [extE] using e.symm⟩
   ·exact .inl ⟨p,hp,by rw [←(hD1 p.1 (s.hr.dom p hp)).2];exact e⟩
 have hold:∀x,x<w.heap.size->¬(∃p∈st.H,E.ρ p.1=x)->(∀b o,xb=some (b,o)->x≠b)->w'.heap[x]? = w.heap[x]?:=fun x h1 h2 h3=>k2.old x h1 fun p hp e=>by
  rcases hblk x ⟨p,hp,e⟩ with h | ⟨b,o,e1,e2⟩
  ·exact h2 h
  ·exact h3 b o e1 e2
 have hzold:∀z,E.Z z->E'.Z z/\w'.heap[z]? = w.heap[z]?:=fun z hz=>⟨k2.zmono z (by rw [hZ1];exact hz),hold z (s.hr.zlt z hz) (fun ⟨p,hp,e⟩=>s.hr.nz p hp (e▸hz)) fun b o e1 e2=>(hxb b o e1).2.1 (e2▸hz)⟩
 have hdom':∀h,h<st.m->E'.D h->E.D h:=fun h h1 h2=>by
  rcases (k2.dom h).1 h2 with h3 | h3
  ·cases xb with
   | none=>exact h3
   | some p=>exact h3.resolve_right (by omega)
  ·cases xb with
   | none=>have h3:st.m<=h/\_:=h3;omega
   | some p=>have h3:st.m+1<=h/\_:=h3;omega
 have hσb:∀(x:Value) i,i<st.mv->(zr E E' st.mv x).σ i=E.σ i:=fun x i hi=>by
  have:i≠st.mv:=by omega
  simp [zr,this]
 have hconv:∀x {v c},CP st.mv st.m v->VR E w v c->VR (zr E E' st.mv x) w' v c:=fun x v c hcp hv=>
  VR.cpx (E:=E) (E':=zr E E' st.mv x) (w:=w) (w':=w') (fun h _ hh=>⟨hh,rfl⟩) hzold k2.shapes (hσb x) hv hcp
 refine ⟨k1,k3,hagree,fun b o e=>?_,hdom',hzold,fun z hz=>?_,fun p hp=>?_,hold,k2.tape,k2.os,k2.output,k2.size,k2.shapes,k2.sig.trans hσ1,fun x=>?_,hconv,fun x g u h=>⟨hconv x (hG g u h).cp (s.hg g u h).1,(s.hg g u h).2.mono k2.shapes⟩⟩
 ·subst e;have:(extE E st.m (some (b,o))).D st.m:=.inr rfl;rw [k2.agree _ this];simp [extE]
 ·rcases k2.znew z hz with h | h | h
  ·rw [hZ1] at h;exact .inl h
  ·rcases hblk z h with h | h
   ·exact .inr (.inl h)
   ·exact .inr (.inr (.inl h))
  ·exact .inr (.inr (.inr h))
 ·rcases k2.own p hp with h | h
  ·rcases hblk _ h with h | h
   ·exact .inl h
   ·exact .inr (.inl h)
  ·exact .inr (.inr h)
 ·have hρ:∀p∈st.H,E'.ρ p.1=E.ρ p.1:=fun p hp=>hagree p.1 (s.hr.dom p hp)
  refine ⟨s.hr.nodup,s.hr.dom,s.hr.inj,fun p hp=>?_,fun p hp=>?_,k1.zlt⟩
  ·obtain ⟨str,cs,e,hcs⟩:=s.cH p hp;have h1:=k1.obj p (hH p hp);rw [e] at h1 ⊢;rw [hρ p hp] at h1;refine OR.cpx rfl (fun hcp hv=>?_) hcs h1
   exact VR.cpx (E':=zr E E' st.mv x) (fun h hlt hh=>⟨hdom' h hlt hh,(hagree h (hdom' h hlt hh)).symm⟩) (fun b hb=>⟨hb,rfl⟩) (.refl w') (fun i hi=>by rw [hσb x i hi,k2.sig,hσ1]) hv hcp
  ·have:=k1.nz p (hH p hp);rw [hρ p hp] at this;exact this
theorem FrR.putc {n k:Nat} {fr:Fr} {E2:Env} {w2:World} {d:Option Nat} {v:AV} {cv:Value} (hf:FrR E w fr a nt) (hc:FrCP n k fr) (hm:∀{v cv},CP n k v->VR E w v cv->VR E2 w2 v cv) (hd:∀n,d=some n->n<nt) (hv:VR E2 w2 v cv):FrR E2 w2 (putd fr d v) (a.put d cv) nt:=by
 have hf2:FrR E2 w2 fr a nt:=⟨hf.size,fun t u h=>hm (hc t u h) (hf.get t u h)⟩
 exact hf2.put id hd hv
theorem OutW.sr (s:SR G nt E w a β st) {xb:XB} {E':Env} {w':World} {H':Heap} {v:AV} {cv:Value} (O:OutW G E w st xb E' w' H' v cv) (hxb:∀b o,xb=some (b,o)->∃j vi,st.V.get j=some vi/\vi.owns=true/\β j=some b)
  (x:Value) (V':Vecs) (mv':Nat) (β':Nat->Option Nat) {d:Option Nat} {v2:AV} (hmv:st.mv<=mv') (hv2:VR (zr E E' st.mv x) w' v2 cv) (hcv2:CP mv' st.m v2) (hd:∀n,d=some n->n<nt)
  (hV:∀j vi,V'.get j=some vi->(st.V.get j=some vi/\(vi.owns=true->β' j=β j/\∀b o,xb=some (b,o)->β j≠some b)) ∨
   (j<mv'/\VOK (zr E E' st.mv x) w' V' β' j vi/\(∀j2 i off,vi=.vptr j2 i off->j2<mv')/\(vi.owns=true->∀b',β' j=some b'->¬E'.Z b'/\(∀p∈st.H,E.ρ p.1≠b')/\((∃b o,xb=some (b,o)/\b'=b)\/w.heap.size<=b'))))
  (hone:∀j j' vi vi',V'.get j=some vi->V'.get j'=some vi'->vi.owns=true->vi'.owns=true->¬(st.V.get j=some vi/\β' j=β j/\∀b o,xb=some (b,o)->β j≠some b)->¬(st.V.get j'=some vi'/\β' j'=β j'/\∀b o,xb=some (b,o)->β j'≠some b)->j=j')
  (hvp:∀j2 sz es,j2<st.mv->V'.get j2=some (.vec sz es)->β' j2=β j2/\∃es',st.V.get j2=some (.vec sz es')/\es'.length=es.length):
  SR G nt (zr E E' st.mv x) w' (a.put d cv) β' ⟨putd st.fr d v2,st.H,V',st.m,mv'⟩/\Kp E.Z (BS E β st.H st.V) w (zr E E' st.mv x).Z (BS (zr E E' st.mv x) β' st.H V') w':=by
 have hkept:∀j vi b,st.V.get j=some vi->vi.owns=true->β j=some b->(∀c o,xb=some (c,o)->β j≠some c)->b<w.heap.size/\w'.heap[b]? = w.heap[b]?/\¬E'.Z b/\∀p∈st.H,E.ρ p.1≠b:=fun j vi b h1 h2 h3 h4=>by
  have h5:=(s.vok j vi h1).2.lt h2 h3;have h6:=s.bz j vi b h1 h2 h3;have h7:∀c o,xb=some (c,o)->b≠c:=fun c o e e'=>h4 c o e (by rw [h3,e'])
  refine ⟨h5,O.old b h5 (fun ⟨p,hp,e⟩=>h6.2 p hp e) h7,fun hz=>?_,h6.2⟩
  rcases O.znew b hz with h | ⟨p,hp,e⟩ | ⟨c,o,e,e'⟩ | h
  ·exact h6.1 h
  ·exact h6.2 p hp e
  ·exact h7 c o e e'
  ·omega
 have hσ:∀i,i<st.mv->(zr E E' st.mv x).σ i=E.σ i:=fun i hi=>by
  have:i≠st.mv:=by omega
  simp [zr,this]
 refine ⟨⟨O.back x,s.hf.putc s.cfr (O.conv x) hd hv2,O.gr x,s.dom,(s.cfr.mono hmv (Nat.le_refl _)).putd hcv2,s.cH.mono hmv (Nat.le_refl _),fun j vi h1=>?_,fun j j2 i off h1=>?_,fun j vi b h1 h2 h3=>?_,fun j j' vi vi' b h1 h2 h3 h4 h5 h6=>?_⟩,?_⟩
 ·rcases hV j vi h1 with ⟨h2,h3⟩ | ⟨h2,h3,_⟩
  ·have h4:=s.vok j vi h2;refine ⟨Nat.lt_of_lt_of_le h4.1 hmv,h4.2.mono (hσ j h4.1) (fun ho=>(h3 ho).1) (fun b ho hb=>(hkept j vi b h2 ho hb (h3 ho).2).2.1) O.zold O.shapes fun j2 i off e sz es hes=>?_⟩
   subst e;exact hvp j2 sz es (s.vp j j2 i off h2) hes
  ·exact ⟨h2,h3⟩
 ·rcases hV j _ h1 with ⟨h2,h3⟩ | ⟨h2,_,h3,_⟩
  ·exact Nat.lt_of_lt_of_le (s.vp j j2 i off h2) hmv
  ·exact h3 j2 i off rfl
 ·rcases hV j vi h1 with ⟨h4,h5⟩ | ⟨_,_,_,h4⟩
  ·rw [(h5 h2).1] at h3;have:=hkept j vi b h4 h2 h3 (h5 h2).2;exact ⟨this.2.2.1,this.2.2.2⟩
  ·have:=h4 h2 b h3;exact ⟨this.1,this.2.1⟩
 ·by_cases c1:st.V.get j=some vi/\β' j=β j/\∀b o,xb=some (b,o)->β j≠some b
  ·by_cases c2:st.V.get j'=some vi'/\β' j'=β j'/\∀b o,xb=some (b,o)->β j'≠some b
   ·exact s.binj j j' vi vi' b c1.1 c2.1 h3 h4 (by rw [←c1.2.1];exact h5) (by rw [←c2.2.1];exact h6)
   ·exfalso
    have hb:β j=some b:=by rw [←c1.2.1];exact h5
    have hk:=hkept j vi b c1.1 h3 hb c1.2.2;rcases hV j' vi' h2 with ⟨q1,q2⟩ | ⟨_,_,_,q2⟩
    ·exact c2 ⟨q1,(q2 h4).1,(q2 h4).2⟩
    ·rcases (q2 h4 b h6).2.2 with ⟨c,o,e,e'⟩ | h
     ·exact c1.2.2 c o e (by rw [hb,e'])
     ·omega
  ·by_cases c2:st.V.get j'=some vi'/\β' j'=β j'/\∀b o,xb=some (b,o)->β j'≠some b
   ·exfalso
    have hb:β j'=some b:=by rw [←c2.2.1];exact h6
    have hk:=hkept j' vi' b c2.1 h4 hb c2.2.2;rcases hV j vi h1 with ⟨q1,q2⟩ | ⟨_,_,_,q2⟩
    ·exact c1 ⟨q1,(q2 h3).1,(q2 h3).2⟩
    ·rcases (q2 h3 b h5).2.2 with ⟨c,o,e,e'⟩ | h
     ·exact c2.2.2 c o e (by rw [hb,e'])
     ·omega
   ·exact hone j j' vi vi' h1 h2 h3 h4 c1 c2
 ·refine ⟨fun z hz=>(O.zold z hz).1,fun z hz=>?_,fun z hz=>?_,O.tape,O.os,O.output,O.size,fun z hz hb=>O.old z hz (fun h=>hb (.inl h)) fun b o e e'=>?_,O.shapes⟩
  ·rcases O.znew z hz with h | h | ⟨b,o,e,e'⟩ | h
   ·exact .inl h
   ·exact .inr (.inl (.inl h))
   ·obtain ⟨j,vi,h1,h2,h3⟩:=hxb b o e;exact .inr (.inl (.inr ⟨j,vi,h1,h2,by rw [e'];exact h3⟩))
   ·exact .inr (.inr h)
  ·rcases hz with h | ⟨j,vi,h1,h2,h3⟩
   ·exact .inl (.inl h)
   ·rcases hV j vi h1 with ⟨q1,q2⟩ | ⟨_,_,_,q2⟩
    ·exact .inl (.inr ⟨j,vi,q1,h2,by rw [←(q2 h2).1];exact h3⟩)
    ·rcases (q2 h2 z h3).2.2 with ⟨b,o,e,e'⟩ | h
     ·obtain ⟨j,vi,h1,h2,h3⟩:=hxb b o e;exact .inl (.inr ⟨j,vi,h1,h2,by rw [e'];exact h3⟩)
     ·exact .inr h
  ·obtain ⟨j,vi,h1,h2,h3⟩:=hxb b o e;exact hb (.inr ⟨j,vi,h1,h2,by rw [e'];exact h3⟩)
end
end Go.Sy
namespace Go.Sy
theorem zD {v:AV} {sz:Nat} {cs:List AV} (h:cellsOf v sz=some cs):cs.length=sz/\v.cells=cs/\v.flat=true:=by
 unfold cellsOf at h;cases hf:v.flat with
 | false=>rw [hf] at h;cases h
 | true=>
  rw [hf] at h;simp only at h;split at h
  ·rename_i h2;cases h;exact ⟨zb h2,rfl,rfl⟩
  ·cases h
theorem zJ {sz:Nat}:∀{es fs:List AV},flatten sz es=some fs->fs.length=es.length*sz/\∀(i:Nat) e,es[i]? = some e->cellsOf e sz=some ((fs.drop (i*sz)).take sz)
 | [],fs,h=>by cases h;exact ⟨by simp,fun i e he=>by simp at he⟩
 | a::r,fs,h=>by
  simp only [flatten] at h;split at h
  ·rename_i c hc;split at h
   ·rename_i cs hcs;cases h;obtain ⟨h1,h2⟩:=zJ hcs;obtain ⟨h3,_,_⟩:=zD hc;refine ⟨by simp [h1,h3,Nat.succ_mul];omega,fun i e he=>?_⟩
    cases i with
    | zero=>
     simp only [List.getElem?_cons_zero,Option.some.injEq] at he;subst he;rw [hc];simp [←h3]
    | succ i=>
     rw [List.getElem?_cons_succ] at he;rw [h2 i e he];have:(i+1)*sz=c.length+i*sz:=by rw [Nat.succ_mul,h3];omega
     rw [this,←List.drop_drop,List.drop_left]
   ·cases h
  ·cases h
theorem zIV {sz:Nat}:∀{a b x y:List AV},flatten sz a=some x->flatten sz b=some y->flatten sz (a++b)=some (x++y)
 | [],b,x,y,h,k=>by cases h;simpa using k
 | e::r,b,x,y,h,k=>by
  simp only [flatten] at h;split at h
  ·rename_i c hc;split at h
   ·rename_i cs hcs;cases h;simp only [List.cons_append,flatten,hc,zIV hcs k,List.append_assoc]
   ·cases h
  ·cases h
theorem zLx {sz:Nat} {v:AV} {new:List AV} (hv:cellsOf v sz=some new):∀{es fs:List AV} {i:Nat},flatten sz es=some fs->i<es.length->flatten sz (es.set i v)=some (splice fs (i*sz) new)
 | [],fs,i,h,hi=>by simp at hi
 | a::r,fs,i,h,hi=>by
  simp only [flatten] at h;split at h
  ·rename_i c hc;split at h
   ·rename_i cs hcs;cases h;obtain ⟨h3,_,_⟩:=zD hc;obtain ⟨h4,_,_⟩:=zD hv;cases i with
    | zero=>
     simp only [List.set_cons_zero,flatten,hv,hcs,splice,Nat.zero_mul,List.take_zero,List.nil_append,Nat.zero_add];rw [h4,←h3,List.drop_left]
    | succ i=>
     have hi':i<r.length:=by simpa using hi
     simp only [List.set_cons_succ,flatten,hc,zLx hv hcs hi',splice];have e1:(i+1)*sz=c.length+i*sz:=by rw [Nat.succ_mul,h3];omega
     have e2:(i+1)*sz+new.length=c.length+(i*sz+new.length):=by omega
     rw [e2,e1,List.take_length_add_append,List.drop_length_add_append];simp [List.append_assoc]
   ·cases h
  ·cases h
theorem zKv {c:AV} (h:c.one=true):cellsOf c 1=some [c]:=by
 cases c <;> first | (cases h;done) | rfl
theorem zW {sz:Nat}:∀{len:Nat} {cs es:List AV},zCZ sz len cs=some es->es=chunks sz len cs/\es.length=len/\0<sz/\len*sz<=cs.length/\flatten sz es=some (cs.take (len*sz))
 | len,cs,es,h=>by
  unfold zCZ at h;split at h
  ·rename_i hc;cases h;simp only [Bool.and_eq_true,Nat.ble_eq,Nat.blt_eq] at hc;obtain ⟨⟨h1,h2⟩,h3⟩:=hc;refine ⟨rfl,zJX _ _ _,h2,h1,?_⟩
   have key:∀(len:Nat) (cs:List AV),len*sz<=cs.length->cs.all AV.one=true->flatten sz (chunks sz len cs)=some (cs.take (len*sz)):=by
    intro len
    induction len with
    | zero=>intro cs _ _;simp [chunks,flatten]
    | succ len ih=>
     intro cs hl hall;have hl':len*sz<=(cs.drop sz).length:=by rw [List.length_drop];rw [Nat.succ_mul] at hl;omega
     have hall':(cs.drop sz).all AV.one=true:=List.all_eq_true.2 fun x hx=>List.all_eq_true.1 hall x (List.mem_of_mem_drop hx)
     have hrec:=ih (cs.drop sz) hl' hall';have hle:sz<=cs.length:=by rw [Nat.succ_mul] at hl;omega
     obtain ⟨e0,h5,h6⟩:∃e0,chunks sz (len+1) cs=e0::chunks sz len (cs.drop sz)/\cellsOf e0 sz=some (cs.take sz):=by
      by_cases h1:sz=1
      ·subst h1;cases cs with
       | nil=>simp at hle
       | cons c r=>
        rw [List.all_cons,Bool.and_eq_true] at hall;exact ⟨c,rfl,by simpa using zKv hall.1⟩
      ·refine ⟨.agg (cs.take sz),?_,?_⟩
       ·simp only [chunks]
       ·have:(AV.agg (cs.take sz)).cells.length=sz:=by simp [AV.cells,hle]
        simp only [cellsOf,AV.flat,this,Nat.beq_refl];rfl
     simp only [h5,flatten,h6,hrec];rw [Nat.succ_mul,Nat.add_comm (len*sz) sz,List.take_add]
   exact key _ _ h1 h3
  ·cases h
theorem zFj:∀s:List Nat,flatten 1 (s.map fun b=>AV.int .u8 (.ofNat b))=some (s.map fun b=>AV.int .u8 (.ofNat b))
 | []=>rfl
 | a::r=>by
  simp only [List.map_cons,flatten,zKv (c:=.int .u8 (.ofNat a)) rfl,zFj r];rfl
theorem zHt:∀{es:List AV} {s:List Nat},zA2 es=some s->flatten 1 es=some es
 | [],s,h=>rfl
 | a::r,s,h=>by
  unfold zA2 at h;split at h
  ·cases ‹_::_=[]›
  ·rename_i b r' e;cases e;split at h
   ·rename_i s' hs;simp only [flatten,zKv (c:=.int .u8 (.ofNat b)) rfl,zHt hs];rfl
   ·cases h
  ·cases h
theorem zGM {sz:Nat} {e:AV} {c:List AV} (h:cellsOf e sz=some c):∀n:Nat,flatten sz (List.replicate n e)=some (rep n c)
 | 0=>rfl
 | n+1=>by simp only [List.replicate_succ,flatten,h,zGM h n,rep]
theorem zMD (c:List AV):∀n:Nat,(rep n c).length=n*c.length
 | 0=>by simp [rep]
 | n+1=>by simp [rep,zMD c n,Nat.succ_mul];omega
theorem zOD (c:List AV):∀{l n:Nat},l<=n->(rep n c).take (l*c.length)=rep l c
 | 0,n,_=>by simp [rep]
 | l+1,0,h=>by omega
 | l+1,n+1,h=>by
  simp only [rep];rw [Nat.succ_mul,Nat.add_comm,List.take_length_add_append,zOD c (by omega)]
theorem zNX {E:Env} {w:World} {sz:Nat} {es:List AV} {cv:Value} (h:VR E w (.lst sz es) cv):∃fs,flatten sz es=some fs:=by
 have key:∀(es:List AV),(∀(i:Nat) e,es[i]? = some e->∃c,cellsOf e sz=some c)->∃fs,flatten sz es=some fs:=by
  intro es
  induction es with
  | nil=>intro _;exact ⟨[],rfl⟩
  | cons a r ih=>
   intro hk;obtain ⟨c,hc⟩:=hk 0 a rfl;obtain ⟨fs,hfs⟩:=ih fun i e he=>hk (i+1) e he
   exact ⟨c++fs,by simp only [flatten,hc,hfs]⟩
 cases h with
 | lst0=>exact ⟨[],rfl⟩
 | lst _ b o cap _ f hz hcap hcm hfl hv hc=>
  refine key es fun i e he=>?_
  have hi:i<es.length:=(List.getElem?_eq_some_iff.1 he).1;have h1:e.flat=true:=by have:=hfl i e he;cases e <;> first | rfl | cases this
  have h2:=((hv i e he).cells h1).1.1;have h3:=(hc i hi).1;refine ⟨e.cells,?_⟩
  have:e.cells.length=sz:=by rw [h2];simpa using h3
  simp only [cellsOf,h1,this,Nat.beq_refl]
theorem zLy {H:Heap} {sz:Nat} {es fs:List AV} (h:flatten sz es=some fs):content H sz (.lst sz es)=some (es.length,fs):=by
 simp only [content,Nat.beq_refl,h]
theorem zJZ {E:Env} {w:World} {H:Heap} {sz:Nat} {u:AV} {ys:List AV} {cv:Value} (hu:VR E w u cv) (h:zBj H sz u=some ys):∃fs,flatten sz ys=some fs/\content H sz u=some (ys.length,fs)/\fs.length=ys.length*sz:=by
 unfold zBj at h;split at h
 ·cases h;exact ⟨[],rfl,rfl,by simp⟩
 ·rename_i sz' es;split at h
  ·rename_i e;cases h;have e:=zb e;subst e;obtain ⟨fs,hfs⟩:=zNX hu;exact ⟨fs,hfs,zLy hfs,(zJ hfs).1⟩
  ·cases h
 ·rename_i hd off len sz' cp ex;split at h
  ·rename_i e;split at h
   ·rename_i str cs hg;split at h
    ·rename_i hle;obtain ⟨_,h2,_,h4,h5⟩:=zW h;refine ⟨_,h5,?_,(zJ h5).1⟩
     simp only [content,e,hg,hle,h2]
    ·cases h
   ·cases h
  ·cases h
 ·rename_i s;split at h
  ·rename_i e;cases h;have e':=zb e;subst e';exact ⟨_,zFj s,by simp [content,e],by simp⟩
  ·cases h
 ·cases h
theorem zUa {sz:Nat} {es fs cs:List AV} {i off s:Nat} {ag:Bool} {e v:AV} (hf:flatten sz es=some fs) (hcs:fs=cs.take (es.length*sz)) (hl:es.length*sz<=cs.length) (he:es[i]? = some e) (hp:part e.cells off s ag=some v):part cs (i*sz+off) s ag=some v:=by
 obtain ⟨h1,h2⟩:=zJ hf;obtain ⟨h3,h4,_⟩:=zD (h2 i e he);have hi:i<es.length:=(List.getElem?_eq_some_iff.1 he).1;have hisz:i*sz+sz<=es.length*sz:=by rw [←Nat.succ_mul];exact Nat.mul_le_mul_right _ hi
 have hcell:e.cells=(cs.drop (i*sz)).take sz:=by
  rw [h4,hcs,List.drop_take,List.take_take,Nat.min_eq_left (by omega)]
 have hlen:e.cells.length=sz:=by rw [h4];exact h3
 unfold part at hp ⊢;cases ag with
 | true=>
  simp only at hp ⊢;split at hp
  ·rename_i hb;have hb:=Nat.le_of_ble_eq_true hb;rw [hlen] at hb;have:Nat.ble (i*sz+off+s) cs.length=true:=by rw [Nat.ble_eq];omega
   rw [this];cases hp;simp only;rw [hcell,List.drop_take,List.take_take,Nat.min_eq_left (by omega),List.drop_drop]
  ·cases hp
 | false=>
  simp only at hp ⊢;rw [hcell,List.getElem?_take] at hp;split at hp
  ·rw [List.getElem?_drop] at hp;exact hp
  ·cases hp
theorem zLQ:∀{ks:List Kd} {a b:List AV} {r:Bool},eqv ks a b=some r->eqbs ks a b=some r/\a.length=ks.length/\b.length=ks.length
 | [],a,b,r,h=>by
  unfold eqv at h;split at h
  ·cases h;exact ⟨rfl,rfl,rfl⟩
  ·cases ‹_=_::_›
  ·cases h
 | k::ks,a,b,r,h=>by
  unfold eqv at h;split at h
  ·cases ‹_=[]›
  ·rename_i k' ks' a x b y e;cases e;split at h
   ·rename_i p hp;cases ks with
    | nil=>
     simp only at h;split at h
     ·cases h;simp only [eqbs,hp];cases r <;> simp [eqbs]
     ·cases h
    | cons k2 ks=>
     simp only at h;split at h
     ·rename_i q hq;cases h;obtain ⟨h1,h2,h3⟩:=zLQ hq;simp only [eqbs,hp];cases p with
      | true=>simp only [h1,Bool.true_and];exact ⟨trivial,by simp [h2],by simp [h3]⟩
      | false=>exact ⟨by simp,by simp [h2],by simp [h3]⟩
     ·cases h
   ·cases h
  ·cases h
end Go.Sy
namespace Go.Sy
structure Rs (G:Cx) (nt:Nat) (Z0 B0:Nat->Prop) (w0:World) (dl:List Deferred) (E:Env) (w:World) (a:Act) (st:Sta):Prop where
 out:∃β,SR G nt E w a β st/\Kp Z0 B0 w0 E.Z (BS E β st.H st.V) w/\a.defers=dl
def OpK (P:Program) (G:Cx) (nt:Nat) (Z0 B0:Nat->Prop) (w0:World) (dl:List Deferred) (o:Oper) (w:World) (a:Act) (k:AV->Sta->Prop):Prop:=
 ∀(next:Act->World->Prop) (Q:Exit->Act->World->Prop),(∀v st' cv E' w',k v st'->Rs G nt Z0 B0 w0 dl E' w' (a.put o.dst cv) (st'.put o.dst v)->next (a.put o.dst cv) w')->o.wp P a w next Q
section
variable {P:Program} {G:Cx} {nt:Nat} {E:Env} {w:World} {a:Act} {β:Nat->Option Nat} {st:Sta}
theorem FrR.redo {E1:Env} {fr:Fr} {t:Nat} {X:AV} (hf:FrR E w fr a nt) (hm:∀{v cv},VR E w v cv->VR E1 w v cv) (hX:VR E1 w X (a.tmps.getD t undef)):FrR E1 w (fr.put t X) a nt:=
 ⟨hf.size,fun u v h=>by
  rw [Fr.get_put] at h;split at h
  ·rename_i e;subst e;cases h;exact hX
  ·exact hm (hf.get u v h)⟩
theorem zFX (hG:GPP G) {fr:Fr} {x:XV} {j:Nat} (hx:xvOK x=true) (h:x.ev G fr=some (.sym j)):∃t,x=.t t/\fr.get t=some (.sym j):=by
 cases x with
 | t n=>exact ⟨n,rfl,h⟩
 | c v=>cases h;cases hx
 | g n=>have:=hG n _ h;cases this
theorem zD7 {fr:Fr} {y:XV} {u X:AV} {t j:Nat} (h:y.ev G fr=some u) (ht:fr.get t=some (.sym j)) (hu:u≠.sym j):y.ev G (fr.put t X)=some u:=by
 cases y with
 | t n=>
  have h:fr.get n=some u:=h;show (fr.put t X).get n=some u
  rw [Fr.get_put];split
  ·rename_i e;subst e;rw [ht] at h;cases h;exact absurd rfl hu
  ·exact h
 | c v=>exact h
 | g n=>exact h
theorem zZ {fr:Fr} {X:AV} {t:Nat}:(XV.t t).ev G (fr.put t X)=some X:=by
 show (fr.put t X).get t=some X
 rw [Fr.get_put];simp
theorem VR.sym_val {j:Nat} {cv:Value} (h:VR E w (.sym j) cv):cv=E.σ j:=by
 cases h with
 | sym _ _ he _=>exact he
theorem VR.bk {E':Env} {w':World} {mv:Nat} {x cv:Value} {v:AV} (h:VR E' w' v cv) (hp:PP v):VR (zr E E' mv x) w' v cv:=
 VR.pp (E:=E') (E':=zr E E' mv x) (w:=w') (w':=w') (fun b hb=>⟨hb,rfl⟩) h hp
theorem OR.bk {E':Env} {w':World} {mv b:Nat} {x:Value} {str:Bool} {cs:List AV} (h:OR E' w' b (.cells str cs)) (hp:∀c∈cs,PP c):OR (zr E E' mv x) w' b (.cells str cs):=
 OR.pp (E:=E') (E':=zr E E' mv x) (w:=w') (w':=w') rfl (fun b hb=>⟨hb,rfl⟩) hp h
theorem OR.bkm {E':Env} {w':World} {mv b:Nat} {x:Value} {es:List (AV×AV)} (h:OR E' w' b (.map es)) (hp:∀p∈es,PP p.1/\PP p.2):OR (zr E E' mv x) w' b (.map es):=
 OR.pm (E:=E') (E':=zr E E' mv x) (w:=w') (w':=w') rfl (fun b hb=>⟨hb,rfl⟩) hp h
theorem OutW.new_vec (s:SR G nt E w a β st) {xb:XB} {E':Env} {w':World} {H':Heap} {v:AV} {cv:Value} (O:OutW G E w st xb E' w' H' v cv) (hxb:∀b o,xb=some (b,o)->∃j vi,st.V.get j=some vi/\vi.owns=true/\β j=some b)
  {V0:Vecs} (hV0:∀j vi,V0.get j=some vi->st.V.get j=some vi/\(vi.owns=true->∀b o,xb=some (b,o)->β j≠some b)) {h' sz cp:Nat} {str ex:Bool} {cs es:List AV} (hmem:(h',HO.cells str cs)∈H') (hne:∀p∈st.H,p∈H'/\p.1≠h')
  (hv:v=.row h' 0 es.length sz cp ex) (hes:∀e∈es,PP e) (hcs:∀c∈cs,PP c) (hl:es.length*sz<=cs.length) (hfl:flatten sz es=some (cs.take (es.length*sz))) {d:Option Nat} (hd:∀n,d=some n->n<nt):
  ∃x β',SR G nt (zr E E' st.mv x) w' (a.put d cv) β' ⟨putd st.fr d (.sym st.mv),st.H,(st.mv,.vec sz es)::V0,st.m,st.mv+1⟩/\Kp E.Z (BS E β st.H st.V) w (zr E E' st.mv x).Z (BS (zr E E' st.mv x) β' st.H ((st.mv,.vec sz es)::V0)) w':=by
 subst hv;have hrow:=RowV.of_vr O.hv;have hlt:∀j vi,V0.get j=some vi->j≠st.mv:=fun j vi h=>by have:=(s.vok j vi (hV0 j vi h).1).1;omega
 refine ⟨cv,fun j=>if j=st.mv then some (E'.ρ h') else β j,O.sr s hxb cv _ (st.mv+1) _ (Nat.le_succ _) ?_ (.sym _ (Nat.lt_succ_self _)) hd ?_ ?_ ?_⟩
 ·exact .sym _ _ (by simp [zr]) hrow.one
 ·intro j vi h;rw [Vecs.get_cons] at h;split at h
  ·rename_i e;subst e;cases h;refine .inr ⟨Nat.lt_succ_self _,⟨hes,.inr ⟨E'.ρ h',str,cs,cp,ex,by simp,?_,?_,hcs,hl,hfl⟩⟩,fun j2 i off e=>(by cases e),fun _ b' hb'=>?_⟩
   ·exact (O.hr'.obj _ hmem).bk hcs
   ·simpa [zr] using hrow
   ·simp only [if_true,Option.some.injEq] at hb';subst hb';refine ⟨O.hr'.nz _ hmem,fun p hp e=>?_,?_⟩
    ·obtain ⟨q1,q2⟩:=hne p hp;rw [←O.agree p.1 (s.hr.dom p hp)] at e;exact q2 (O.hr'.inj p q1 _ hmem e)
    ·rcases O.own _ hmem with ⟨q,hq,e⟩ | h | h
     ·exfalso
      obtain ⟨q1,q2⟩:=hne q hq;rw [←O.agree q.1 (s.hr.dom q hq)] at e;exact q2 (O.hr'.inj q q1 _ hmem e)
     ·exact .inl h
     ·exact .inr h
  ·refine .inl ⟨(hV0 j vi h).1,fun ho=>⟨?_,(hV0 j vi h).2 ho⟩⟩
   simp [hlt j vi h]
 ·intro j j' vi vi' h1 h2 h3 h4 h5 h6;have key:∀j vi,Vecs.get ((st.mv,VI.vec sz es)::V0) j=some vi->vi.owns=true->¬(st.V.get j=some vi/\(if j=st.mv then some (E'.ρ h') else β j)=β j/\∀b o,xb=some (b,o)->β j≠some b)->j=st.mv:=by
   intro j vi h ho hn;rw [Vecs.get_cons] at h;split at h
   ·rename_i e;exact e.symm
   ·exact absurd ⟨(hV0 j vi h).1,by simp [hlt j vi h],(hV0 j vi h).2 ho⟩ hn
  rw [key j vi h1 h3 h5,key j' vi' h2 h4 h6]
 ·intro j2 sz' es' hlt2 h;rw [Vecs.get_cons] at h;split at h
  ·omega
  ·exact ⟨by simp [show j2≠st.mv by omega],es',(hV0 j2 _ h).1,rfl⟩
theorem OutW.nil_vec (s:SR G nt E w a β st) {E':Env} {w':World} {H':Heap} {v:AV} {cv:Value} (O:OutW G E w st none E' w' H' v cv)
  {V0:Vecs} (hV0:∀j vi,V0.get j=some vi->st.V.get j=some vi) {sz:Nat} (hv:v=.nilslice) {d:Option Nat} (hd:∀n,d=some n->n<nt):
  ∃x β',SR G nt (zr E E' st.mv x) w' (a.put d cv) β' ⟨putd st.fr d (.sym st.mv),st.H,(st.mv,.vec sz [])::V0,st.m,st.mv+1⟩/\Kp E.Z (BS E β st.H st.V) w (zr E E' st.mv x).Z (BS (zr E E' st.mv x) β' st.H ((st.mv,.vec sz [])::V0)) w':=by
 subst hv;have hcv:cv=.slice none 0 0:=by cases O.hv;rfl
 have hlt:∀j vi,V0.get j=some vi->j≠st.mv:=fun j vi h=>by have:=(s.vok j vi (hV0 j vi h)).1;omega
 refine ⟨cv,fun j=>if j=st.mv then none else β j,O.sr s (fun b o e=>(by cases e)) cv _ (st.mv+1) _ (Nat.le_succ _) ?_ (.sym _ (Nat.lt_succ_self _)) hd ?_ ?_ ?_⟩
 ·exact .sym _ _ (by simp [zr]) (by rw [hcv];rfl)
 ·intro j vi h;rw [Vecs.get_cons] at h;split at h
  ·rename_i e;subst e;cases h;exact .inr ⟨Nat.lt_succ_self _,⟨fun e he=>(by cases he),.inl ⟨by simp,by simp [zr,hcv],rfl⟩⟩,fun j2 i off e=>(by cases e),fun _ b' hb'=>(by simp at hb')⟩
  ·exact .inl ⟨hV0 j vi h,fun ho=>⟨by simp [hlt j vi h],fun b o e=>(by cases e)⟩⟩
 ·intro j j' vi vi' h1 h2 h3 h4 h5 h6;have key:∀j vi,Vecs.get ((st.mv,VI.vec sz [])::V0) j=some vi->¬(st.V.get j=some vi/\(if j=st.mv then none else β j)=β j/\∀b o,(none:XB)=some (b,o)->β j≠some b)->j=st.mv:=by
   intro j vi h hn;rw [Vecs.get_cons] at h;split at h
   ·rename_i e;exact e.symm
   ·exact absurd ⟨hV0 j vi h,by simp [hlt j vi h],fun b o e=>by cases e⟩ hn
  rw [key j vi h1 h5,key j' vi' h2 h6]
 ·intro j2 sz' es' hlt2 h;rw [Vecs.get_cons] at h;split at h
  ·omega
  ·exact ⟨by simp [show j2≠st.mv by omega],es',hV0 j2 _ h,rfl⟩
theorem OutW.keep0 (s:SR G nt E w a β st) {xb:XB} {E':Env} {w':World} {H':Heap} {v:AV} {cv:Value} (O:OutW G E w st xb E' w' H' v cv) (hxb:∀b o,xb=some (b,o)->(st.m,o)∈H'/\∃j vi,st.V.get j=some vi/\vi.owns=true/\β j=some b)
  (hself:∀j vi b o,st.V.get j=some vi->vi.owns=true->xb=some (b,o)->β j=some b->VOK (zr E E' st.mv undef) w' st.V β j vi) (hbz:∀b o,xb=some (b,o)->∀p∈st.H,E.ρ p.1≠b) (hv:PP v) {d:Option Nat} (hd:∀n,d=some n->n<nt):
  SR G nt (zr E E' st.mv undef) w' (a.put d cv) β ⟨putd st.fr d v,st.H,st.V,st.m,st.mv⟩/\Kp E.Z (BS E β st.H st.V) w (zr E E' st.mv undef).Z (BS (zr E E' st.mv undef) β st.H st.V) w':=by
 refine O.sr s (fun b o e=>(hxb b o e).2) undef st.V st.mv β (Nat.le_refl _) (O.hv.bk hv) hv.cp hd ?_ ?_ ?_
 ·intro j vi h;by_cases ho:vi.owns=true/\∃b o,xb=some (b,o)/\β j=some b
  ·obtain ⟨ho,b,o,e,hb⟩:=ho;refine .inr ⟨(s.vok j vi h).1,hself j vi b o h ho e hb,fun j2 i off e=>(by subst e;cases ho),fun _ b' hb'=>?_⟩
   rw [hb] at hb';cases hb';have h1:=O.hr'.nz _ (hxb b o e).1;rw [O.at_m b o e] at h1;exact ⟨h1,hbz b o e,.inl ⟨b,o,e,rfl⟩⟩
  ·exact .inl ⟨h,fun ho'=>⟨rfl,fun b o e hb=>ho ⟨ho',b,o,e,hb⟩⟩⟩
 ·intro j j' vi vi' h1 h2 h3 h4 h5 h6;have key:∀j vi,st.V.get j=some vi->¬(st.V.get j=some vi/\β j=β j/\∀b o,xb=some (b,o)->β j≠some b)->∃b o,xb=some (b,o)/\β j=some b:=by
   intro j vi h hn;apply Classical.byContradiction;intro hc;exact hn ⟨h,rfl,fun b o e hb=>hc ⟨b,o,e,hb⟩⟩
  obtain ⟨b,o,e,hb⟩:=key j vi h1 h5;obtain ⟨b',o',e',hb'⟩:=key j' vi' h2 h6;rw [e] at e';cases e';exact s.binj j j' vi vi' b h1 h2 h3 h4 hb hb'
 ·intro j2 sz es _ h;exact ⟨rfl,es,h,rfl⟩
theorem OutW.keep1 (s:SR G nt E w a β st) {xb:XB} {E':Env} {w':World} {H':Heap} {v:AV} {cv:Value} (O:OutW G E w st xb E' w' H' v cv) (hxb:∀b o,xb=some (b,o)->(st.m,o)∈H'/\∃j vi,st.V.get j=some vi/\vi.owns=true/\β j=some b)
  (hself:∀j vi b o,st.V.get j=some vi->vi.owns=true->xb=some (b,o)->β j=some b->VOK (zr E E' st.mv cv) w' st.V β j vi) (hbz:∀b o,xb=some (b,o)->∀p∈st.H,E.ρ p.1≠b) {j0 i off sz0:Nat} {es0:List AV} (hj0:st.V.get j0=some (.vec sz0 es0)) (hi:i<es0.length) {b0:Nat} (hb0:β j0=some b0)
  (hcv:cv=.pointer (some ⟨b0,i*sz0+off,none⟩)) {d:Option Nat} (hd:∀n,d=some n->n<nt):
  SR G nt (zr E E' st.mv cv) w' (a.put d cv) β ⟨putd st.fr d (.sym st.mv),st.H,(st.mv,.vptr j0 i off)::st.V,st.m,st.mv+1⟩/\Kp E.Z (BS E β st.H st.V) w (zr E E' st.mv cv).Z (BS (zr E E' st.mv cv) β st.H ((st.mv,.vptr j0 i off)::st.V)) w':=by
 have hj0l:=(s.vok j0 _ hj0).1;refine O.sr s (fun b o e=>(hxb b o e).2) cv _ (st.mv+1) β (Nat.le_succ _) (.sym _ _ (by simp [zr]) (by rw [hcv];rfl)) (.sym _ (Nat.lt_succ_self _)) hd ?_ ?_ ?_
 ·intro j vi h;rw [Vecs.get_cons] at h;split at h
  ·rename_i e;subst e;cases h;refine .inr ⟨Nat.lt_succ_self _,?_,fun j2 i2 off2 e=>(by cases e;omega),fun ho=>(by cases ho)⟩
   intro sz es hes;rw [Vecs.get_cons,if_neg (by omega),hj0] at hes
   cases hes;exact ⟨hi,b0,hb0,by simp [zr,hcv]⟩
  ·by_cases ho:vi.owns=true/\∃b o,xb=some (b,o)/\β j=some b
   ·obtain ⟨ho,b,o,e,hb⟩:=ho;refine .inr ⟨Nat.lt_succ_of_lt (s.vok j vi h).1,?_,fun j2 i off e=>(by subst e;cases ho),fun _ b' hb'=>?_⟩
    ·have:=hself j vi b o h ho e hb;cases vi with
     | vptr=>cases ho
     | _=>exact this
    ·rw [hb] at hb';cases hb';have h1:=O.hr'.nz _ (hxb b o e).1;rw [O.at_m b o e] at h1;exact ⟨h1,hbz b o e,.inl ⟨b,o,e,rfl⟩⟩
   ·exact .inl ⟨h,fun ho'=>⟨rfl,fun b o e hb=>ho ⟨ho',b,o,e,hb⟩⟩⟩
 ·intro j j' vi vi' h1 h2 h3 h4 h5 h6;have key:∀j vi,Vecs.get ((st.mv,VI.vptr j0 i off)::st.V) j=some vi->vi.owns=true->¬(st.V.get j=some vi/\β j=β j/\∀b o,xb=some (b,o)->β j≠some b)->st.V.get j=some vi/\∃b o,xb=some (b,o)/\β j=some b:=by
   intro j vi h ho hn;rw [Vecs.get_cons] at h;split at h
   ·cases h;cases ho
   ·refine ⟨h,Classical.byContradiction fun hc=>hn ⟨h,rfl,fun b o e hb=>hc ⟨b,o,e,hb⟩⟩⟩
  obtain ⟨g1,b,o,e,hb⟩:=key j vi h1 h3 h5;obtain ⟨g2,b',o',e',hb'⟩:=key j' vi' h2 h4 h6;rw [e] at e';cases e';exact s.binj j j' vi vi' b g1 g2 h3 h4 hb hb'
 ·intro j2 sz es hlt h;rw [Vecs.get_cons,if_neg (by omega)] at h
  exact ⟨rfl,es,h,rfl⟩
theorem OutW.replace (s:SR G nt E w a β st) {b0:Nat} {o0:HO} {E':Env} {w':World} {H':Heap} {v:AV} {cv:Value} (O:OutW G E w st (some (b0,o0)) E' w' H' v cv) {j0:Nat} {vi0 vi1:VI} (hj0:st.V.get j0=some vi0) (ho0:vi0.owns=true) (hb0:β j0=some b0)
  (ho1:vi1.owns=true) (hnew:VOK (zr E E' st.mv undef) w' ((j0,vi1)::st.V.del j0) β j0 vi1) {o1:HO} (hmem:(st.m,o1)∈H') (hlen:∀sz es,vi1=.vec sz es->∃es',vi0=.vec sz es'/\es'.length=es.length) (hv:PP v) {d:Option Nat} (hd:∀n,d=some n->n<nt):
  SR G nt (zr E E' st.mv undef) w' (a.put d cv) β ⟨putd st.fr d v,st.H,(j0,vi1)::st.V.del j0,st.m,st.mv⟩/\Kp E.Z (BS E β st.H st.V) w (zr E E' st.mv undef).Z (BS (zr E E' st.mv undef) β st.H ((j0,vi1)::st.V.del j0)) w':=by
 have hbz:=s.bz j0 vi0 b0 hj0 ho0 hb0;refine O.sr s (fun b o e=>(by cases e;exact ⟨j0,vi0,hj0,ho0,hb0⟩)) undef _ st.mv β (Nat.le_refl _) (O.hv.bk hv) hv.cp hd ?_ ?_ ?_
 ·intro j vi h;rw [Vecs.get_cons] at h;split at h
  ·rename_i e;subst e;cases h;refine .inr ⟨(s.vok _ _ hj0).1,hnew,fun j2 i off e=>(by subst e;cases ho1),fun _ b' hb'=>?_⟩
   rw [hb0] at hb';cases hb';have h1:=O.hr'.nz _ hmem;rw [O.at_m b0 o0 rfl] at h1;exact ⟨h1,hbz.2,.inl ⟨b0,o0,rfl,rfl⟩⟩
  ·rename_i hne;rw [Vecs.get_del,if_neg hne] at h;refine .inl ⟨h,fun ho=>⟨rfl,fun b o e hb=>?_⟩⟩
   cases e;exact hne (s.binj j0 j vi0 vi b0 hj0 h ho0 ho hb0 hb)
 ·intro j j' vi vi' h1 h2 h3 h4 h5 h6;have key:∀j vi,Vecs.get ((j0,vi1)::st.V.del j0) j=some vi->vi.owns=true->¬(st.V.get j=some vi/\β j=β j/\∀b o,(some (b0,o0):XB)=some (b,o)->β j≠some b)->j=j0:=by
   intro j vi h ho hn;rw [Vecs.get_cons] at h;split at h
   ·rename_i e;exact e.symm
   ·rename_i hne;rw [Vecs.get_del,if_neg hne] at h;refine absurd ⟨h,rfl,fun b o e hb=>?_⟩ hn
    cases e;exact hne (s.binj j0 j vi0 vi b0 hj0 h ho0 ho hb0 hb)
  rw [key j vi h1 h3 h5,key j' vi' h2 h4 h6]
 ·intro j2 sz es hlt h;rw [Vecs.get_cons] at h;split at h
  ·rename_i e;subst e;cases h;obtain ⟨es',e1,e2⟩:=hlen sz es rfl;exact ⟨rfl,es',by rw [hj0,e1],e2⟩
  ·rename_i hne;rw [Vecs.get_del,if_neg hne] at h;exact ⟨rfl,es,h,rfl⟩
end
end Go.Sy
namespace Go.Sy
section
variable {P:Program} {G:Cx} {nt:Nat} {E:Env} {w:World} {a:Act} {β:Nat->Option Nat} {st:Sta}
 {Z0 B0:Nat->Prop} {w0:World} {dl:List Deferred} {o:Oper} {k:AV->Sta->Prop}
theorem zED {H:Heap} {h:Nat} {o:HO}:Heap.get ((h,o)::H) h=some o:=by simp only [Heap.get,Nat.beq_refl]
theorem zBe {n k:Nat} {e:AV} (hf:e.flat=true) (h:∀c∈e.cells,CP n k c):CP n k e:=by
 cases e with
 | agg cs=>exact .agg _ h
 | tup cs=>cases hf
 | _=>exact h _ (.head _)
theorem zLz {e:AV} (hf:e.flat=true) (h:∀c∈e.cells,PP c):PP e:=by
 cases e with
 | agg cs=>exact .agg _ h
 | tup cs=>cases hf
 | _=>exact h _ (.head _)
structure Ctx (P:Program) (G:Cx) (nt:Nat) (Z0 B0:Nat->Prop) (w0:World) (dl:List Deferred) (E:Env) (w:World) (a:Act) (β:Nat->Option Nat) (st:Sta) (o:Oper) (xop:XO):Prop where
 s:SR G nt E w a β st
 kp:Kp Z0 B0 w0 E.Z (BS E β st.H st.V) w
 df:a.defers=dl
 hG:GPP G
 hm:zAi P G
 hc:zAA P o.op=some xop
 hd:∀n,o.dst=some n->n<nt
 ok:opOK xop=true
theorem zQx {E2:Env} {w2:World} {β2:Nat->Option Nat} {st2:Sta} {d:Option Nat} {cv:Value} (h:SR G nt E2 w2 (a.put d cv) β2 st2/\Kp E.Z (BS E β st.H st.V) w E2.Z (BS E2 β2 st2.H st2.V) w2) (k0:Kp Z0 B0 w0 E.Z (BS E β st.H st.V) w) (hdl:a.defers=dl):Rs G nt Z0 B0 w0 dl E2 w2 (a.put d cv) st2:=
 ⟨β2,h.1,k0.trans h.2,by rw [DRun.put_defers];exact hdl⟩
theorem Ctx.gen {xop:XO} (c:Ctx P G nt Z0 B0 w0 dl E w a β st o xop) {call:Sy.Call} (hcall:zD3 P G call) {v:AV} {H':Heap} {m':Nat} (hx:xoS G call st.fr st.H st.m xop=some (v,H',m')) (hcv:CP st.mv m' v) (hcH:HCP st.mv m' H') (hk:k v ⟨st.fr,H',st.V,m',st.mv⟩):
  OpK P G nt Z0 B0 w0 dl o w a k:=by
 intro next Q hn;refine zFr c.s.hr c.s.hf c.s.hg c.hm hcall c.hc (fun h h1 h2 hD=>by have:=c.s.dom h hD;omega) hx next Q fun cv E' w' h1 h2 h3=>?_
 exact hn v _ cv E' w' hk (zQx (st:=st) (st2:=⟨putd st.fr o.dst v,H',st.V,m',st.mv⟩) (c.s.step h1 h2 h3 hcv hcH c.hd) c.kp c.df)
theorem Ctx.dflt {xop:XO} (c:Ctx P G nt Z0 B0 w0 dl E w a β st o xop) (hdf:zIU xop=true) (h:WXd st (xoS G ze st.fr st.H st.m xop) k):OpK P G nt Z0 B0 w0 dl o w a k:=by
 unfold WXd at h;split at h
 ·rename_i v H' m' hx;obtain ⟨h1,h2⟩:=zKu hdf c.ok c.hG c.s.cfr c.s.cH hx;exact c.gen zDL hx h1 h2 h
 ·exact h.elim
theorem Ctx.val {xop:XO} (c:Ctx P G nt Z0 B0 w0 dl E w a β st o xop) {v:AV} (hx:xoS G ze st.fr st.H st.m xop=some (v,st.H,st.m)) (hcv:CP st.mv st.m v) (hk:k v st):OpK P G nt Z0 B0 w0 dl o w a k:=
 c.gen zDL hx hcv c.s.cH hk
theorem Ctx.ext {xop:XO} (c:Ctx P G nt Z0 B0 w0 dl E w a β st o xop) {xb:XB} (hxb:∀b o,xb=some (b,o)->OR E w b o/\¬E.Z b/\∀p∈st.H,E.ρ p.1≠b) {fr':Fr} (hf':FrR (extE E st.m xb) w fr' a nt)
  {v:AV} {H':Heap} {n':Nat} (hx:xoS G ze fr' (extH st.H st.m xb) (extN st.m xb) xop=some (v,H',n')) (hH:∀p∈st.H,p∈H') {v2:AV} {H2:Heap} {V2:Vecs} {m2 mv2:Nat}
  (hn:∀cv E' w',OutW G E w st xb E' w' H' v cv->∃E2 β2,SR G nt E2 w' (a.put o.dst cv) β2 ⟨putd st.fr o.dst v2,H2,V2,m2,mv2⟩/\Kp E.Z (BS E β st.H st.V) w E2.Z (BS E2 β2 H2 V2) w') (hk:k v2 ⟨st.fr,H2,V2,m2,mv2⟩):OpK P G nt Z0 B0 w0 dl o w a k:=by
 intro next Q hnx;refine zRv c.s c.hG c.hm hxb hf' c.hc hx hH next Q fun cv E' w' O=>?_
 obtain ⟨E2,β2,h⟩:=hn cv E' w' O;exact hnx v2 _ cv E2 w' hk (zQx (st:=st) (st2:=⟨putd st.fr o.dst v2,H2,V2,m2,mv2⟩) h c.kp c.df)
theorem zBH (s:SR G nt E w a β st) {t j:Nat} (ht:st.fr.get t=some (.sym j)) {xb:XB} {X:AV} (hX:VR (extE E st.m xb) w X (E.σ j)):FrR (extE E st.m xb) w (st.fr.put t X) a nt:=
 s.hf.redo (zH8 s) (by rw [(s.hf.get t _ ht).sym_val];exact hX)
structure VecIn (E:Env) (w:World) (st:Sta) (β:Nat->Option Nat) (j sz:Nat) (es:List AV) (b:Nat) (str:Bool) (cs:List AV) (cp:Nat) (ex:Bool):Prop where
 hb:β j=some b
 hor:OR E w b (.cells str cs)
 row:RowV w b es.length sz cp ex (E.σ j)
 pc:∀c∈cs,PP c
 hl:es.length*sz<=cs.length
 hfl:flatten sz es=some (cs.take (es.length*sz))
theorem zE9 (s:SR G nt E w a β st) {j sz:Nat} {es:List AV} (h:st.V.get j=some (.vec sz es)):(∀e∈es,PP e)/\((β j=none/\E.σ j=.slice none 0 0/\es=[])\/∃b str cs cp ex,VecIn E w st β j sz es b str cs cp ex):=by
 obtain ⟨h1,h2⟩:=(s.vok j _ h).2;refine ⟨h1,h2.imp id ?_⟩
 rintro ⟨b,str,cs,cp,ex,q1,q2,q3,q4,q5,q6⟩
 exact ⟨b,str,cs,cp,ex,q1,q2,q3,q4,q5,q6⟩
section
variable {j sz b cp:Nat} {es cs:List AV} {str ex:Bool}
theorem VecIn.xb (s:SR G nt E w a β st) (h:st.V.get j=some (.vec sz es)) (v:VecIn E w st β j sz es b str cs cp ex):∀b' o',(some (b,HO.cells str cs):XB)=some (b',o')->OR E w b' o'/\¬E.Z b'/\∀p∈st.H,E.ρ p.1≠b':=by
 intro b' o' e;cases e;have:=s.bz j _ b h rfl v.hb;exact ⟨v.hor,this.1,this.2⟩
theorem VecIn.ent (h:st.V.get j=some (.vec sz es)) (v:VecIn E w st β j sz es b str cs cp ex):∀b' o',(some (b,HO.cells str cs):XB)=some (b',o')->∃j vi,st.V.get j=some vi/\vi.owns=true/\β j=some b':=by
 intro b' o' e;cases e;exact ⟨j,_,h,rfl,v.hb⟩
theorem VecIn.vr (v:VecIn E w st β j sz es b str cs cp ex):VR (extE E st.m (some (b,.cells str cs))) w (.row st.m 0 es.length sz cp ex) (E.σ j):=
 v.row.vr (by simp [extE]) (.inr rfl)
theorem VecIn.self (s:SR G nt E w a β st) (hes:∀e∈es,PP e) (h:st.V.get j=some (.vec sz es)) (v:VecIn E w st β j sz es b str cs cp ex) {E':Env} {w':World} {H':Heap} {u:AV} {cv:Value} (O:OutW G E w st (some (b,.cells str cs)) E' w' H' u cv) (hmem:(st.m,HO.cells str cs)∈H') (x:Value):
  ∀j' vi b' o',st.V.get j'=some vi->vi.owns=true->(some (b,HO.cells str cs):XB)=some (b',o')->β j'=some b'->VOK (zr E E' st.mv x) w' st.V β j' vi:=by
 intro j' vi b' o' h1 h2 e h3;cases e;have:=s.binj j j' _ _ b h h1 rfl h2 v.hb h3;subst this;rw [h] at h1;cases h1;have hm:=O.hr'.obj _ hmem;rw [O.at_m b _ rfl] at hm;have hj:j≠st.mv:=by have:=(s.vok j _ h).1;omega
 refine ⟨hes,.inr ⟨b,str,cs,cp,ex,v.hb,hm.bk v.pc,?_,v.pc,v.hl,v.hfl⟩⟩
 have:(zr E E' st.mv x).σ j=E.σ j:=by simp [zr,hj]
 rw [this];exact v.row.mono O.shapes
theorem VecIn.bz (s:SR G nt E w a β st) (h:st.V.get j=some (.vec sz es)) (v:VecIn E w st β j sz es b str cs cp ex):∀b' o',(some (b,HO.cells str cs):XB)=some (b',o')->∀p∈st.H,E.ρ p.1≠b':=fun b' o' e=>(v.xb s h b' o' e).2.2
end
theorem zVt {x:XV} (c:Ctx P G nt Z0 B0 w0 dl E w a β st o (.lenL x)) {j sz:Nat} {es:List AV} (hx:x.ev G st.fr=some (.sym j)) (hV:st.V.get j=some (.vec sz es)) (hk:k (.int .i64 (.ofNat es.length)) st):OpK P G nt Z0 B0 w0 dl o w a k:=by
 have hok:xvOK x=true:=by have:=c.ok;simp only [opOK,XO.opnds,zH,Bool.and_true,List.all_cons,List.all_nil] at this;exact this
 obtain ⟨t,rfl,ht⟩:=zFX c.hG hok hx;obtain ⟨hes,⟨h1,h2,rfl⟩ | ⟨b,str,cs,cp,ex,v⟩⟩:=zE9 c.s hV
 ·refine c.ext (xb:=none) (fun b o e=>by cases e) (zBH c.s ht (X:=.nilslice) (xb:=none) (by rw [h2];exact .nilslice)) (v:=.int .i64 (.ofNat 0)) (H':=st.H) (n':=st.m) (by simp only [xoS,zZ];rfl) (fun p hp=>hp) (fun cv E' w' O=>⟨_,_,O.keep0 c.s (fun b o e=>by cases e) (fun _ _ _ _ _ _ e=>by cases e) (fun b o e=>by cases e) (.int _ _) c.hd⟩) hk
 ·refine c.ext (v.xb c.s hV) (zBH c.s ht v.vr) (v:=.int .i64 (.ofNat es.length)) (H':=(st.m,.cells str cs)::st.H) (n':=st.m+1) (by simp only [xoS,zZ];rfl) (fun p hp=>.tail _ hp) (fun cv E' w' O=>⟨_,_,O.keep0 c.s (fun b' o' e=>⟨by cases e;exact .head _,v.ent hV b' o' e⟩) (v.self c.s hes hV O (.head _) undef) (v.bz c.s hV) (.int _ _) c.hd⟩) hk
theorem zSH {x i:XV} {sz:Nat} (c:Ctx P G nt Z0 B0 w0 dl E w a β st o (.iaddrS x i sz)) {j:Nat} {es:List AV} (hx:x.ev G st.fr=some (.sym j)) (hV:st.V.get j=some (.vec sz es)) {kd:IntKind} {n:Int} (hi:i.ev G st.fr=some (.int kd n)) (h0:0<=n) (h1:n<.ofNat es.length)
  (hk:k (.sym st.mv) ⟨st.fr,st.H,(st.mv,.vptr j n.toNat 0)::st.V,st.m,st.mv+1⟩):OpK P G nt Z0 B0 w0 dl o w a k:=by
 have hok:xvOK x=true:=by have:=c.ok;simp only [opOK,XO.opnds,zH,Bool.and_true,List.all_append,List.all_cons,List.all_nil,Bool.and_eq_true] at this;exact this.1
 obtain ⟨t,rfl,ht⟩:=zFX c.hG hok hx;obtain ⟨m,rfl⟩:=Int.eq_ofNat_of_zero_le h0;have hlt:m<es.length:=by have h1:(m:Int)<(es.length:Int):=h1;omega
 rw [Int.toNat_natCast] at hk;obtain ⟨hes,⟨_,_,rfl⟩ | ⟨b,str,cs,cp,ex,v⟩⟩:=zE9 c.s hV
 ·simp at hlt
 ·have hi':=zD7 (X:=.row st.m 0 es.length sz cp ex) hi ht (by simp)
  refine c.ext (v.xb c.s hV) (zBH c.s ht v.vr) (v:=.ptr st.m (0+m*sz)) (H':=(st.m,.cells str cs)::st.H) (n':=st.m+1) ?_ (fun p hp=>.tail _ hp) (v2:=.sym st.mv) (fun cv E' w' O=>⟨_,_,O.keep1 c.s (fun b' o' e=>⟨by cases e;exact .head _,v.ent hV b' o' e⟩) (v.self c.s hes hV O (.head _) cv) (v.bz c.s hV) hV hlt v.hb ?_ c.hd⟩) hk
  ·have hb:Nat.blt m es.length=true:=by rw [Nat.blt_eq];exact hlt
   have:zDU es.length (.int kd (m:Int))=some m:=by
    show (match Nat.blt m es.length with | true=>some m | false=>none)=some m
    rw [hb]
   simp only [xoS,zZ,hi',Nat.beq_refl,this];rfl
  ·have h2:=O.hv;have h3:=O.at_m b _ rfl;cases h2 with
   | ptr _ _ hd=>rw [h3];simp
theorem zOE (c:SR G nt E w a β st) {p j i off sz:Nat} {es:List AV} (hp:st.V.get p=some (.vptr j i off)) (hV:st.V.get j=some (.vec sz es)):∃b str cs cp ex,i<es.length/\E.σ p=.pointer (some ⟨b,i*sz+off,none⟩)/\VecIn E w st β j sz es b str cs cp ex:=by
 obtain ⟨h1,b,h2,h3⟩:=(c.vok p _ hp).2 sz es hV;obtain ⟨hes,⟨h4,_,_⟩ | ⟨b',str,cs,cp,ex,v⟩⟩:=zE9 c hV
 ·rw [h4] at h2;cases h2
 ·have:=v.hb;rw [h2] at this;cases this;exact ⟨b,str,cs,cp,ex,h1,h3,v⟩
theorem zOF {b off:Nat} {ho:HO} {cv:Value} (h:cv=.pointer (some ⟨b,off,none⟩)):VR (extE E st.m (some (b,ho))) w (.ptr st.m off) cv:=by
 subst h;have:=VR.ptr (E:=extE E st.m (some (b,ho))) (w:=w) st.m off (.inr rfl)
 simpa [extE] using this
theorem zVu {x:XV} {s:Nat} {ag:Bool} (c:Ctx P G nt Z0 B0 w0 dl E w a β st o (.load x s ag)) {p j i off sz:Nat} {es:List AV} (hx:x.ev G st.fr=some (.sym p)) (hp:st.V.get p=some (.vptr j i off)) (hV:st.V.get j=some (.vec sz es)) {v:AV}
  (hv:ldE es i off s ag=some v) (hk:k v st):OpK P G nt Z0 B0 w0 dl o w a k:=by
 have hok:xvOK x=true:=by have:=c.ok;simp only [opOK,XO.opnds,zH,Bool.and_true,List.all_cons,List.all_nil] at this;exact this
 obtain ⟨t,rfl,ht⟩:=zFX c.hG hok hx;obtain ⟨b,str,cs,cp,ex,hi,hσ,vi⟩:=zOE c.s hp hV;have hes:=(zE9 c.s hV).1;unfold ldE at hv;split at hv
 rotate_left
 ·cases hv
 rename_i e he;have hpart:=zUa vi.hfl rfl vi.hl he hv;have hpp:PP v:=zM5 (hes e (List.mem_of_getElem? he)).cells hv;refine c.ext (vi.xb c.s hV) (zBH c.s ht (X:=.ptr st.m (i*sz+off)) (zOF hσ)) (v:=v) (H':=(st.m,.cells str cs)::st.H) (n':=st.m+1) ?_ (fun p hp=>.tail _ hp) (fun cv E' w' O=>⟨_,_,O.keep0 c.s (fun b' o' e=>⟨by cases e;exact .head _,vi.ent hV b' o' e⟩) (vi.self c.s hes hV O (.head _) undef) (vi.bz c.s hV) hpp c.hd⟩) hk
 simp only [xoS,zZ,xload,extH,zED,hpart,extN]
theorem zUb {x:XV} {f:Nat} (c:Ctx P G nt Z0 B0 w0 dl E w a β st o (.faddr x f)) {p j i off sz:Nat} {es:List AV} (hx:x.ev G st.fr=some (.sym p)) (hp:st.V.get p=some (.vptr j i off)) (hV:st.V.get j=some (.vec sz es))
  (hk:k (.sym st.mv) ⟨st.fr,st.H,(st.mv,.vptr j i (off+f))::st.V,st.m,st.mv+1⟩):OpK P G nt Z0 B0 w0 dl o w a k:=by
 have hok:xvOK x=true:=by have:=c.ok;simp only [opOK,XO.opnds,zH,Bool.and_true,List.all_cons,List.all_nil] at this;exact this
 obtain ⟨t,rfl,ht⟩:=zFX c.hG hok hx;obtain ⟨b,str,cs,cp,ex,hi,hσ,vi⟩:=zOE c.s hp hV;have hes:=(zE9 c.s hV).1;refine c.ext (vi.xb c.s hV) (zBH c.s ht (X:=.ptr st.m (i*sz+off)) (zOF hσ)) (v:=.ptr st.m (i*sz+off+f)) (H':=(st.m,.cells str cs)::st.H) (n':=st.m+1) ?_ (fun p hp=>.tail _ hp) (v2:=.sym st.mv) (fun cv E' w' O=>⟨_,_,O.keep1 c.s (fun b' o' e=>⟨by cases e;exact .head _,vi.ent hV b' o' e⟩) (vi.self c.s hes hV O (.head _) cv) (vi.bz c.s hV) hV hi vi.hb ?_ c.hd⟩) hk
 ·simp only [xoS,zZ];rfl
 ·have h2:=O.hv;have h3:=O.at_m b _ rfl;cases h2 with
  | ptr _ _ hd=>rw [h3,Nat.add_assoc]
theorem zUc {x y:XV} {sz:Nat} (c:Ctx P G nt Z0 B0 w0 dl E w a β st o (.store x y sz)) {p j i:Nat} {es:List AV} (hx:x.ev G st.fr=some (.sym p)) (hp:st.V.get p=some (.vptr j i 0)) (hV:st.V.get j=some (.vec sz es)) {v:AV} {new:List AV}
  (hy:y.ev G st.fr=some v) (hpp:PP v) (hn:cellsOf v sz=some new) (hk:k (.tup []) ⟨st.fr,st.H,(j,.vec sz (es.set i v))::st.V.del j,st.m,st.mv⟩):OpK P G nt Z0 B0 w0 dl o w a k:=by
 have hok:xvOK x=true:=by have:=c.ok;simp only [opOK,XO.opnds,zH,Bool.and_true,List.all_append,List.all_cons,List.all_nil,Bool.and_eq_true] at this;exact this.1
 obtain ⟨t,rfl,ht⟩:=zFX c.hG hok hx;obtain ⟨b,str,cs,cp,ex,hi,hσ,vi⟩:=zOE c.s hp hV;have hes:=(zE9 c.s hV).1;have hσ:E.σ p=.pointer (some ⟨b,i*sz,none⟩):=hσ;have hy':=zD7 (X:=.ptr st.m (i*sz)) hy ht (by intro e;rw [e] at hpp;cases hpp)
 obtain ⟨hnl,hnc,_⟩:=zD hn;have hisz:i*sz+sz<=es.length*sz:=by rw [←Nat.succ_mul];exact Nat.mul_le_mul_right _ hi
 have hlen:(splice cs (i*sz) new).length=cs.length:=by
  have:=vi.hl;simp only [splice,List.length_append,List.length_take,List.length_drop];omega
 have hflat:flatten sz (es.set i v)=some ((splice cs (i*sz) new).take (es.length*sz)):=by
  rw [zLx hn vi.hfl hi];congr 1;have:=vi.hl;simp only [splice];rw [List.take_append,List.take_append,List.take_take,List.drop_take];simp only [List.length_append,List.length_take,List.take_take];congr 1
  ·congr 1
   ·congr 1;omega
   ·rw [List.take_of_length_le (by omega)]
  ·congr 1;omega
 have hpc:∀c∈splice cs (i*sz) new,PP c:=fun c hc=>(zG1 hc).elim (vi.pc c) fun h=>by rw [←hnc] at h;exact hpp.cells c h
 have hPP:∀e∈es.set i v,PP e:=fun e he=>(List.mem_or_eq_of_mem_set he).elim (hes e) fun h=>h▸hpp
 refine c.ext (vi.xb c.s hV) (zBH c.s ht (X:=.ptr st.m (i*sz)) (zOF hσ)) (v:=.tup []) (H':=(st.m,.cells str (splice cs (i*sz) new))::st.H) (n':=st.m+1) ?_ (fun p hp=>.tail _ hp) (fun cv E' w' O=>⟨_,_,O.replace c.s hV rfl vi.hb (vi1:=.vec sz (es.set i v)) rfl ?_ (.head _) (fun sz' es' e=>by cases e;exact ⟨es,rfl,by simp⟩) (.tup _ fun e he=>by cases he) c.hd⟩) hk
 ·have hle:Nat.ble (i*sz+sz) cs.length=true:=by rw [Nat.ble_eq];have:=vi.hl;omega
  simp only [xoS,zZ,hy',extH,zED,hn,hle,Heap.put,Nat.beq_refl,extN]
 ·have hm:=O.hr'.obj _ (.head _);rw [O.at_m b _ rfl] at hm;have hj:j≠st.mv:=by have:=(c.s.vok j _ hV).1;omega
  refine ⟨hPP,.inr ⟨b,str,_,cp,ex,vi.hb,hm.bk hpc,?_,hpc,by rw [List.length_set,hlen];exact vi.hl,by rw [List.length_set];exact hflat⟩⟩
  have:(zr E E' st.mv undef).σ j=E.σ j:=by simp [zr,hj]
  rw [this,List.length_set];exact vi.row.mono O.shapes
theorem zFY {sz:Nat} {es fs:List AV} (h:flatten sz es=some fs) (hp:∀e∈es,PP e):∀c∈fs,PP c:=by
 induction es generalizing fs with
 | nil=>cases h;intro c hc;cases hc
 | cons e r ih=>
  simp only [flatten] at h;split at h
  ·rename_i c hc;split at h
   ·rename_i cs hcs;cases h;intro x hx;rcases List.mem_append.1 hx with hx | hx
    ·obtain ⟨_,h2,_⟩:=zD hc;rw [←h2] at hx;exact (hp e (.head _)).cells x hx
    ·exact ih hcs (fun e he=>hp e (.tail _ he)) x hx
   ·cases h
  ·cases h
theorem Ctx.newv {xop:XO} (c:Ctx P G nt Z0 B0 w0 dl E w a β st o xop) {sz cp:Nat} {str ex:Bool} {cs es:List AV} (hx:xoS G ze st.fr st.H st.m xop=some (.row st.m 0 es.length sz cp ex,(st.m,.cells str cs)::st.H,st.m+1)) (hes:∀e∈es,PP e) (hcs:∀c∈cs,PP c) (hl:es.length*sz<=cs.length) (hfl:flatten sz es=some (cs.take (es.length*sz)))
  (hk:k (.sym st.mv) ⟨st.fr,st.H,(st.mv,.vec sz es)::st.V,st.m,st.mv+1⟩):OpK P G nt Z0 B0 w0 dl o w a k:=by
 refine c.ext (xb:=none) (fun b o e=>by cases e) c.s.hf hx (fun p hp=>.tail _ hp) (fun cv E' w' O=>?_) hk
 obtain ⟨x,β',h⟩:=O.new_vec c.s (fun b o e=>by cases e) (V0:=st.V) (fun j vi h=>⟨h,fun _ b o e=>by cases e⟩) (.head _) (fun p hp=>⟨.tail _ hp,fun e=>by have:=c.s.dom p.1 (c.s.hr.dom p hp);omega⟩) rfl hes hcs hl hfl c.hd
 exact ⟨_,β',h⟩
theorem zVX {x:XV} (c:Ctx P G nt Z0 B0 w0 dl E w a β st o (.s2b x)) {s:List Nat} (hx:x.ev G st.fr=some (.str s)) (hk:k (.sym st.mv) ⟨st.fr,st.H,(st.mv,.vec 1 (s.map fun b=>.int .u8 (.ofNat b)))::st.V,st.m,st.mv+1⟩):OpK P G nt Z0 B0 w0 dl o w a k:=by
 have hpp:∀e∈s.map fun b=>AV.int .u8 (.ofNat b),PP e:=fun e he=>by
  obtain ⟨b,_,rfl⟩:=List.mem_map.1 he;exact .int _ _
 refine c.newv (sz:=1) (cp:=s.length) (str:=true) (ex:=false) (cs:=s.map fun b=>.int .u8 (.ofNat b)) ?_ hpp hpp (by simp) ?_ hk
 ·simp only [xoS,hx,List.length_map]
 ·rw [zFj,List.take_of_length_le (by simp)]
theorem zSI {len sz:Nat} {z:List AV} {ps:List (Nat×Nat×XV)} (c:Ctx P G nt Z0 B0 w0 dl E w a β st o (.bslice len sz z ps)) {cs es:List AV} (hf:fillx G st.fr z ps=some cs) (hlen:cs.length=len*sz) (hr:zCZ sz len cs=some es) (hp:es.all (ppS 12)=true)
  (hk:k (.sym st.mv) ⟨st.fr,st.H,(st.mv,.vec sz es)::st.V,st.m,st.mv+1⟩):OpK P G nt Z0 B0 w0 dl o w a k:=by
 obtain ⟨h1,h2,h3,h4,h5⟩:=zW hr;have hok:=c.ok;simp only [opOK,XO.opnds,Bool.and_eq_true] at hok;have hz:z.all (z7 12)=true:=hok.2;have hcp:∀c'∈cs,CP st.mv st.m c':=zHs c.hG c.s.cfr (by simpa [List.all_map] using hok.1) (fun c' hc=>(zAt 12 (List.all_eq_true.1 hz c' hc)).cp) hf
 have hes:∀e∈es,PP e:=by
  intro e he;obtain ⟨i,hi⟩:=List.getElem?_of_mem he;obtain ⟨q1,q2⟩:=zJ h5;obtain ⟨q3,q4,q5⟩:=zD (q2 i e hi);refine zBK (n:=st.mv) (k:=st.m) 12 (zBe q5 fun x hx=>hcp x ?_) (List.all_eq_true.1 hp e he)
  rw [q4] at hx;exact List.mem_of_mem_take (List.mem_of_mem_drop (List.mem_of_mem_take hx))
 have htake:cs.take (len*sz)=cs:=List.take_of_length_le (by omega)
 refine c.newv (sz:=sz) (cp:=len) (str:=false) (ex:=true) (cs:=cs) ?_ hes ?_ (by rw [h2];exact h4) (by rw [h2];exact h5) hk
 ·simp only [xoS,hf,h2]
 ·rw [htake] at h5;exact zFY h5 hes
theorem zRw {l cx:XV} {sz bytes:Nat} {z:List AV} (c:Ctx P G nt Z0 B0 w0 dl E w a β st o (.mkslice l cx sz bytes z)) {k1 k2:IntKind} {n m:Int} {e:AV} (hl:l.ev G st.fr=some (.int k1 n)) (hcx:cx.ev G st.fr=some (.int k2 m)) (hr:zCZ sz 1 z=some [e]) (hz:z.length=sz)
  (h0:0<=n) (h1:n<=m) (h2:m.toNat*bytes<=zg) (h3:m.toNat<=zg) (hk:k (.sym st.mv) ⟨st.fr,st.H,(st.mv,.vec sz (List.replicate n.toNat e))::st.V,st.m,st.mv+1⟩):OpK P G nt Z0 B0 w0 dl o w a k:=by
 obtain ⟨n,rfl⟩:=Int.eq_ofNat_of_zero_le h0;obtain ⟨m,rfl⟩:=Int.eq_ofNat_of_zero_le (Int.le_trans h0 h1);rw [Int.toNat_natCast] at h2 h3 hk;have h1:n<=m:=by omega
 obtain ⟨q1,q2,q3,q4,q5⟩:=zW hr;have hok:=c.ok;simp only [opOK,XO.opnds,Bool.and_eq_true] at hok;have hzp:z.all (z7 12)=true:=hok.2;have hzz:∀c'∈z,PP c':=fun c' hc=>zAt 12 (List.all_eq_true.1 hzp c' hc)
 have hec:cellsOf e sz=some z:=by
  have:=(zJ q5).2 0 e rfl;rw [this,Nat.zero_mul,List.drop_zero,List.take_take,Nat.one_mul,Nat.min_self,List.take_of_length_le (by omega)]
 have hpe:PP e:=by
  obtain ⟨_,q7,q8⟩:=zD hec;exact zLz q8 fun x hx=>hzz x (by rw [←q7];exact hx)
 have hrep:∀c'∈rep m z,PP c':=by
  have:∀m,∀c'∈rep m z,PP c':=by
   intro m
   induction m with
   | zero=>intro c' hc;cases hc
   | succ m ih=>intro c' hc;exact (List.mem_append.1 hc).elim (hzz c') (ih c')
  exact this m
 refine c.newv (sz:=sz) (cp:=m) (str:=false) (ex:=true) (cs:=rep m z) ?_ (fun x hx=>by rw [(List.mem_replicate.1 hx).2];exact hpe) hrep ?_ ?_ hk
 ·have b1:Nat.ble n m=true:=by rw [Nat.ble_eq];exact h1
  have b2:Nat.ble (m*bytes) zg=true:=by rw [Nat.ble_eq];exact h2
  have b3:Nat.ble m zg=true:=by rw [Nat.ble_eq];exact h3
  have hl':l.ev G st.fr=some (.int k1 (.ofNat n)):=hl;have hc':cx.ev G st.fr=some (.int k2 (.ofNat m)):=hcx;simp only [xoS,hl',hc',b1,b2,b3,List.length_replicate]
 ·rw [List.length_replicate,zMD,hz];exact Nat.mul_le_mul_right _ h1
 ·rw [zGM hec,List.length_replicate,←hz,zOD z h1]
theorem zUd (c:Ctx P G nt Z0 B0 w0 dl E w a β st o .mkmap) (hk:k (.sym st.mv) ⟨st.fr,st.H,(st.mv,.mp [])::st.V,st.m,st.mv+1⟩):OpK P G nt Z0 B0 w0 dl o w a k:=by
 refine c.ext (xb:=none) (fun b o e=>by cases e) c.s.hf (v:=.map st.m) (H':=(st.m,.map [])::st.H) (n':=st.m+1) rfl (fun p hp=>.tail _ hp) (v2:=.sym st.mv) (fun cv E' w' O=>?_) hk
 have hlt:∀j vi,st.V.get j=some vi->j≠st.mv:=fun j vi h=>by have:=(c.s.vok j vi h).1;omega
 have hcv:cv=.map (some (E'.ρ st.m)):=by cases O.hv;rfl
 have hne:∀p∈st.H,p.1≠st.m:=fun p hp e=>by have:=c.s.dom p.1 (c.s.hr.dom p hp);omega
 refine ⟨_,fun j=>if j=st.mv then some (E'.ρ st.m) else β j,O.sr c.s (fun b o e=>by cases e) cv _ (st.mv+1) _ (Nat.le_succ _) (.sym _ _ (by simp [zr]) (by rw [hcv];rfl)) (.sym _ (Nat.lt_succ_self _)) c.hd ?_ ?_ ?_⟩
 ·intro j vi h;rw [Vecs.get_cons] at h;split at h
  ·rename_i e;subst e;cases h;refine .inr ⟨Nat.lt_succ_self _,⟨fun p hp=>(by cases hp),E'.ρ st.m,by simp,(O.hr'.obj _ (.head _)).bkm (fun p hp=>by cases hp),by simp [zr,hcv]⟩,fun j2 i off e=>(by cases e),fun _ b' hb'=>?_⟩
   simp only [if_true,Option.some.injEq] at hb';subst hb';refine ⟨O.hr'.nz _ (.head _),fun p hp e=>?_,?_⟩
   ·rw [←O.agree p.1 (c.s.hr.dom p hp)] at e;exact hne p hp (O.hr'.inj p (.tail _ hp) _ (.head _) e)
   ·rcases O.own _ (.head _) with ⟨q,hq,e⟩ | h | h
    ·exfalso
     rw [←O.agree q.1 (c.s.hr.dom q hq)] at e;exact hne q hq (O.hr'.inj q (.tail _ hq) _ (.head _) e)
    ·exact .inl h
    ·exact .inr h
  ·exact .inl ⟨h,fun ho=>⟨by simp [hlt j vi h],fun b o e=>(by cases e)⟩⟩
 ·intro j j' vi vi' h1 h2 h3 h4 h5 h6;have key:∀j vi,Vecs.get ((st.mv,VI.mp [])::st.V) j=some vi->¬(st.V.get j=some vi/\(if j=st.mv then some (E'.ρ st.m) else β j)=β j/\∀b o,(none:XB)=some (b,o)->β j≠some b)->j=st.mv:=by
   intro j vi h hn;rw [Vecs.get_cons] at h;split at h
   ·rename_i e;exact e.symm
   ·exact absurd ⟨h,by simp [hlt j vi h],fun b o e=>by cases e⟩ hn
  rw [key j vi h1 h5,key j' vi' h2 h6]
 ·intro j2 sz' es' hlt2 h;rw [Vecs.get_cons,if_neg (by omega)] at h
  exact ⟨by simp [show j2≠st.mv by omega],es',h,rfl⟩
end
end Go.Sy
namespace Go.Sy
section
variable {P:Program} {G:Cx} {nt:Nat} {E:Env} {w:World} {a:Act} {β:Nat->Option Nat} {st:Sta}
 {Z0 B0:Nat->Prop} {w0:World} {dl:List Deferred} {o:Oper} {k:AV->Sta->Prop}
theorem zPu {n m sz:Nat} {H:Heap} {o:HO} {u:AV} (hu:CP n m u):content ((m,o)::H) sz u=content H sz u:=by
 cases hu with
 | row h _ _ _ _ _ hk=>
  have:Nat.beq m h=false:=by
   cases hb:Nat.beq m h with
   | false=>rfl
   | true=>have:=zb hb;omega
  simp only [content,Heap.get,this]
 | _=>rfl
theorem zPv {cs fs:List AV} {n:Nat} (h:n<=cs.length):(splice cs n fs).take (n+fs.length)=cs.take n++fs:=by
 unfold splice;rw [List.take_append_of_le_length (by simp;omega),List.take_of_length_le (by simp;omega)]
theorem zQy {cs fs:List AV} {n:Nat} (h:n<=cs.length):n+fs.length<=(splice cs n fs).length:=by
 simp only [splice,List.length_append,List.length_take,List.length_drop];omega
theorem zNw {x y:XV} {sz bytes:Nat} (c:Ctx P G nt Z0 B0 w0 dl E w a β st o (.append x y sz bytes)) {u:AV} {ys:List AV} (hcl:zKs y=false) (hy:y.ev G st.fr=some u) (he:zBj st.H sz u=some ys) (hpp:(zK6 u||ppS 12 (.agg ys))=true):
  ∃fs,flatten sz ys=some fs/\content st.H sz u=some (ys.length,fs)/\fs.length=ys.length*sz/\(∀e∈ys,PP e)/\CP st.mv st.m u:=by
 have hok:xvOK x=true/\xvOK y=true:=by have:=c.ok;simp only [opOK,XO.opnds,zH,Bool.and_true,List.all_append,List.all_cons,List.all_nil,Bool.and_eq_true] at this;exact this
 have hcu:CP st.mv st.m u:=zE c.hG c.s.cfr hok.2 hy;obtain ⟨fs,hfs,hcont,hfl⟩:∃fs,flatten sz ys=some fs/\content st.H sz u=some (ys.length,fs)/\fs.length=ys.length*sz:=by
  cases y with
  | t n=>exact zJZ (c.s.hf.get n u hy) he
  | g n=>exact zJZ (c.s.hg n u hy).1 he
  | c v'=>
   have hy:v'=u:=by simpa [XV.ev] using hy
   subst hy;cases v' with
   | nilslice=>cases he;exact ⟨[],rfl,rfl,by simp⟩
   | lst=>cases hcl
   | row=>exact absurd hok.2 (by simp [xvOK,z7])
   | str s=>
    simp only [zBj] at he;split at he
    ·rename_i hb;cases he;have e':=zb hb;subst e';exact ⟨_,zFj s,by simp [content],by simp⟩
    ·cases he
   | _=>cases he
 refine ⟨fs,hfs,hcont,hfl,?_,hcu⟩
 rw [Bool.or_eq_true] at hpp;rcases hpp.symm with hpp | hpp
 ·
  have hcy:CP st.mv st.m (.agg ys):=by
   refine .agg _ fun e hin=>?_
   cases u with
   | nilslice=>cases he;cases hin
   | lst sz' es=>
    simp only [zBj] at he;split at he
    ·cases he;cases hcu with
     | lst _ _ h=>exact (h e hin).cp
    ·cases he
   | row=>
    simp only [zBj] at he;split at he
    ·split at he
     ·rename_i str cs hg;split at he
      ·obtain ⟨_,q2,_,q4,q5⟩:=zW he;obtain ⟨i,hi⟩:=List.getElem?_of_mem hin;obtain ⟨r1,r2⟩:=zJ q5;obtain ⟨r3,r4,r5⟩:=zD (r2 i e hi);obtain ⟨str',cs',e1,hcs⟩:=c.s.cH.get hg;cases e1;refine zBe r5 fun z hz=>hcs z ?_
       rw [r4] at hz;exact List.mem_of_mem_drop (List.mem_of_mem_take (List.mem_of_mem_drop (List.mem_of_mem_take hz)))
      ·cases he
     ·cases he
    ·cases he
   | str s=>
    simp only [zBj] at he;split at he
    ·cases he;obtain ⟨b,_,rfl⟩:=List.mem_map.1 hin;exact .int _ _
    ·cases he
   | _=>cases he
  have:=zBK 12 hcy hpp;cases this with
  | agg _ h=>exact h
 ·cases u with
  | lst sz' es=>
   simp only [zBj] at he;split at he
   ·cases he;cases hcu with
    | lst _ _ h=>exact h
   ·cases he
  | _=>cases hpp
theorem zKw {x y:XV} {sz bytes:Nat} (c:Ctx P G nt Z0 B0 w0 dl E w a β st o (.append x y sz bytes)) {u:AV} {ys:List AV} (hcl:zKs y=false) {fr':Fr} (hf':FrR E w fr' a nt) (hx:x.ev G fr'=some .nilslice) (hy':y.ev G fr'=some u) (hy:y.ev G st.fr=some u) (he:zBj st.H sz u=some ys) (hpp:(zK6 u||ppS 12 (.agg ys))=true)
  (hb:ys.length*bytes<=zg) {V0:Vecs} (hV0:∀j vi,V0.get j=some vi->st.V.get j=some vi) (hk:k (.sym st.mv) ⟨st.fr,st.H,(st.mv,.vec sz ys)::V0,st.m,st.mv+1⟩):OpK P G nt Z0 B0 w0 dl o w a k:=by
 obtain ⟨fs,hfs,hcont,hfl,hes,hcu⟩:=zNw c hcl hy he hpp;cases ys with
 | nil=>
  refine c.ext (xb:=none) (fun b o e=>by cases e) hf' (v:=.nilslice) (H':=st.H) (n':=st.m) ?_ (fun p hp=>hp) (fun cv E' w' O=>?_) hk
  ·simp only [xoS,hx,hy',xappend,extH,extN,hcont];rfl
  ·obtain ⟨z,β',h⟩:=O.nil_vec c.s hV0 (sz:=sz) rfl c.hd;exact ⟨_,β',h⟩
 | cons y0 yr=>
  have b1:Nat.ble ((yr.length+1)*bytes) zg=true:=by rw [Nat.ble_eq];simpa using hb
  refine c.ext (xb:=none) (fun b o e=>by cases e) hf' (v:=.row st.m 0 (yr.length+1) sz (yr.length+1) false) (H':=(st.m,.cells false fs)::st.H) (n':=st.m+1) ?_ (fun p hp=>.tail _ hp) (fun cv E' w' O=>?_) hk
  ·simp only [xoS,hx,hy',xappend,extH,extN,hcont,List.length_cons,b1]
  ·obtain ⟨z,β',h⟩:=O.new_vec c.s (fun b o e=>by cases e) (V0:=V0) (fun j vi h=>⟨hV0 j vi h,fun _ b o e=>by cases e⟩) (.head _) (fun p hp=>⟨.tail _ hp,fun e=>by have:=c.s.dom p.1 (c.s.hr.dom p hp);omega⟩) (es:=y0::yr) rfl hes (zFY hfs hes) (by omega) (by rw [List.take_of_length_le (by omega)];exact hfs) c.hd
   exact ⟨_,β',h⟩
theorem zOG {x y:XV} {sz bytes:Nat} (c:Ctx P G nt Z0 B0 w0 dl E w a β st o (.append x y sz bytes)) {u:AV} {j:Nat} {es ys:List AV} (hcl:zKs y=false) (hx:x.ev G st.fr=some (.sym j)) (hV:st.V.get j=some (.vec sz es)) (hy:y.ev G st.fr=some u) (he:zBj st.H sz u=some ys) (hpp:(zK6 u||ppS 12 (.agg ys))=true)
  (hb:(es.length+ys.length)*bytes<=zg) (hb2:es.length+ys.length<=zg) (hk:k (.sym st.mv) ⟨st.fr,st.H,(st.mv,.vec sz (es++ys))::st.V.del j,st.m,st.mv+1⟩):OpK P G nt Z0 B0 w0 dl o w a k:=by
 have hok:xvOK x=true:=by have:=c.ok;simp only [opOK,XO.opnds,zH,Bool.and_true,List.all_append,List.all_cons,List.all_nil,Bool.and_eq_true] at this;exact this.1
 obtain ⟨t,rfl,ht⟩:=zFX c.hG hok hx;have hune:∀i,u≠.sym i:=fun i e=>by subst e;cases he
 have hV0:∀j' vi,(st.V.del j).get j'=some vi->st.V.get j'=some vi/\j≠j':=fun j' vi h=>by
  rw [Vecs.get_del] at h;split at h
  ·cases h
  ·rename_i hne;exact ⟨h,hne⟩
 obtain ⟨hes,⟨h1,h2,rfl⟩ | ⟨b,str,cs,cp,ex,v⟩⟩:=zE9 c.s hV
 ·exact zKw c hcl (fr':=st.fr.put t .nilslice) (zBH c.s ht (xb:=none) (by rw [h2];exact .nilslice)) zZ (zD7 hy ht (hune j)) hy he hpp (by simpa using hb) (fun j' vi h=>(hV0 j' vi h).1) (by simpa using hk)
 ·obtain ⟨fs,hfs,hcont,hfl,hys,hcu⟩:=zNw c hcl hy he hpp;have hy':=zD7 (X:=.row st.m 0 es.length sz cp ex) hy ht (hune j);have hcont':content ((st.m,HO.cells str cs)::st.H) sz u=some (ys.length,fs):=by rw [zPu hcu];exact hcont
  have hall:∀e∈es++ys,PP e:=fun e hin=>(List.mem_append.1 hin).elim (hes e) (hys e)
  have hfall:flatten sz (es++ys)=some (cs.take (es.length*sz)++fs):=zIV v.hfl hfs;have hlen:(es++ys).length*sz=es.length*sz+fs.length:=by rw [List.length_append,Nat.add_mul,hfl]
  have hpn:∀c'∈cs.take (es.length*sz)++fs,PP c':=fun c' hin=>(List.mem_append.1 hin).elim (fun h=>v.pc c' (List.mem_of_mem_take h)) (zFY hfs hys c')
  have c1:Nat.ble (0+es.length*sz) cs.length=true:=by rw [Nat.ble_eq];have:=v.hl;omega
  have c1':Nat.ble (es.length*sz) cs.length=true:=by rw [Nat.ble_eq];exact v.hl
  have c2:Nat.ble ((es.length+ys.length)*bytes) zg=true:=by rw [Nat.ble_eq];exact hb
  have c3:Nat.ble (es.length+ys.length) zg=true:=by rw [Nat.ble_eq];exact hb2
  have hne:∀p∈st.H,p.1≠st.m/\p.1≠st.m+1:=fun p hp=>by have:=c.s.dom p.1 (c.s.hr.dom p hp);omega
  have hV1:∀j' vi,(st.V.del j).get j'=some vi->st.V.get j'=some vi/\(vi.owns=true->∀b' o,(some (b,HO.cells str cs):XB)=some (b',o)->β j'≠some b'):=fun j' vi h=>by
   obtain ⟨q1,q2⟩:=hV0 j' vi h;refine ⟨q1,fun ho b' o e hb'=>?_⟩
   cases e;exact q2 (c.s.binj j j' _ _ b hV q1 rfl ho v.hb hb')
  have hfr:=zBH c.s ht v.vr;have fin:∀{h' cp':Nat} {str' ex':Bool} {cs':List AV} {H':Heap} {n':Nat},xoS G ze (st.fr.put t (.row st.m 0 es.length sz cp ex)) (extH st.H st.m (some (b,.cells str cs))) (extN st.m (some (b,.cells str cs))) (.append (.t t) y sz bytes)=some (.row h' 0 (es.length+ys.length) sz cp' ex',H',n') →
    (h',HO.cells str' cs')∈H'->(∀p∈st.H,p∈H'/\p.1≠h')->(∀c'∈cs',PP c')->es.length*sz+fs.length<=cs'.length->cs'.take (es.length*sz+fs.length)=cs.take (es.length*sz)++fs->OpK P G nt Z0 B0 w0 dl o w a k:=by
   intro h' cp' str' ex' cs' H' n' hxo hmem hneq hpc hl ht';refine c.ext (v.xb c.s hV) hfr hxo (fun p hp=>(hneq p hp).1) (fun cv E' w' O=>?_) hk
   obtain ⟨z,β',h⟩:=O.new_vec c.s (v.ent hV) (V0:=st.V.del j) hV1 hmem hneq (es:=es++ys) (by rw [List.length_append]) hall hpc (by rw [hlen];exact hl) (by rw [hlen,ht'];exact hfall) c.hd
   exact ⟨_,β',h⟩
  by_cases hcp:Nat.ble (es.length+ys.length) cp=true
  ·refine fin (h':=st.m) (cp':=cp) (str':=str) (ex':=ex) (cs':=splice cs (es.length*sz) fs) (H':=(st.m,.cells str (splice cs (es.length*sz) fs))::st.H) (n':=st.m+1) ?_ (.head _) (fun p hp=>⟨.tail _ hp,(hne p hp).1⟩) (fun c' hin=>(zG1 hin).elim (v.pc c') (zFY hfs hys c')) (zQy v.hl) (zPv v.hl)
   simp only [xoS,zZ,hy',xappend,extH,extN,hcont',Nat.beq_refl,zED,c1,c1',c2,c3,hcp,Bool.and_true,Heap.put,Nat.zero_add]
  ·have hcp:Nat.ble (es.length+ys.length) cp=false:=Bool.eq_false_iff.2 hcp;cases ex with
   | true=>
    refine fin (h':=st.m+1) (cp':=es.length+ys.length) (str':=false) (ex':=false) (cs':=cs.take (es.length*sz)++fs) (H':=(st.m+1,.cells false (cs.take (es.length*sz)++fs))::(st.m,.cells str cs)::st.H) (n':=st.m+1+1) ?_ (.head _) (fun p hp=>⟨.tail _ (.tail _ hp),(hne p hp).2⟩) hpn (by have:=v.hl;simp;omega) (by rw [List.take_of_length_le (by simp;omega)])
    simp only [xoS,zZ,hy',xappend,extH,extN,hcont',Nat.beq_refl,zED,c1,c1',c2,c3,hcp,Bool.and_true,List.drop_zero]
   | false=>
    by_cases hn0:ys.length=0
    ·have hy0:ys=[]:=List.eq_nil_of_length_eq_zero hn0;subst hy0;have hf0:fs=[]:=by cases hfs;rfl
     subst hf0;refine fin (h':=st.m) (cp':=cp) (str':=str) (ex':=false) (cs':=cs) (H':=(st.m,.cells str cs)::st.H) (n':=st.m+1) ?_ (.head _) (fun p hp=>⟨.tail _ hp,(hne p hp).1⟩) v.pc (by have:=v.hl;simpa using this) (by simp)
     simp only [xoS,zZ,hy',xappend,extH,extN,hcont',Nat.beq_refl,zED,c1,c1',c2,c3,hcp,Bool.and_true,List.length_nil,Nat.add_zero];simp only [List.length_nil,Nat.add_zero] at c2 c3 hcp;simp only [c2,c3,hcp,Bool.and_true]
    ·obtain ⟨n0,hn0⟩:∃n0,ys.length=n0+1:=⟨ys.length-1,by omega⟩
     refine fin (h':=st.m+1) (cp':=es.length+ys.length) (str':=str) (ex':=false) (cs':=cs.take (es.length*sz)++fs) (H':=(st.m+1,.cells str (cs.take (es.length*sz)++fs))::st.H) (n':=st.m+1+1) ?_ (.head _) (fun p hp=>⟨.tail _ hp,(hne p hp).2⟩) hpn (by have:=v.hl;simp;omega) (by rw [List.take_of_length_le (by simp;omega)])
     rw [hn0] at hcont' c2 c3 hcp ⊢;simp only [xoS,zZ,hy',xappend,extH,extN,hcont',Nat.beq_refl,zED,c1,c1',c2,c3,hcp,Bool.and_true,Heap.del]
theorem zVY {x:XV} (c:Ctx P G nt Z0 B0 w0 dl E w a β st o (.b2s x)) {j:Nat} {es:List AV} {s:List Nat} (hx:x.ev G st.fr=some (.sym j)) (hV:st.V.get j=some (.vec 1 es)) (hs:zA2 es=some s) (hk:k (.str s) st):OpK P G nt Z0 B0 w0 dl o w a k:=by
 have hok:xvOK x=true:=by have:=c.ok;simp only [opOK,XO.opnds,zH,Bool.and_true,List.all_cons,List.all_nil] at this;exact this
 obtain ⟨t,rfl,ht⟩:=zFX c.hG hok hx;obtain ⟨hes,⟨h1,h2,rfl⟩ | ⟨b,str,cs,cp,ex,v⟩⟩:=zE9 c.s hV
 ·cases hs;refine c.ext (xb:=none) (fun b o e=>by cases e) (zBH c.s ht (X:=.nilslice) (xb:=none) (by rw [h2];exact .nilslice)) (v:=.str []) (H':=st.H) (n':=st.m) (by simp only [xoS,zZ,content,zA2];rfl) (fun p hp=>hp) (fun cv E' w' O=>⟨_,_,O.keep0 c.s (fun b o e=>by cases e) (fun _ _ _ _ _ _ e=>by cases e) (fun b o e=>by cases e) (.str _) c.hd⟩) hk
 ·have hfl:=v.hfl;rw [zHt hs] at hfl;have hfl:es=cs.take (es.length*1):=by simpa using hfl
  have c1:Nat.ble (0+es.length*1) cs.length=true:=by rw [Nat.ble_eq];have:=v.hl;omega
  refine c.ext (v.xb c.s hV) (zBH c.s ht v.vr) (v:=.str s) (H':=(st.m,.cells str cs)::st.H) (n':=st.m+1) ?_ (fun p hp=>.tail _ hp) (fun cv E' w' O=>⟨_,_,O.keep0 c.s (fun b' o' e=>⟨by cases e;exact .head _,v.ent hV b' o' e⟩) (v.self c.s hes hV O (.head _) undef) (v.bz c.s hV) (.str _) c.hd⟩) hk
  have:content ((st.m,HO.cells str cs)::st.H) 1 (.row st.m 0 es.length 1 cp ex)=some (es.length,es):=by
   simp only [content,Nat.beq_refl,zED,c1,List.drop_zero,←hfl]
  simp only [xoS,zZ,extH,extN,this,hs]
theorem zSJ {m x:XV} {ag ok:Bool} {kd:List Kd} {z:AV} (c:Ctx P G nt Z0 B0 w0 dl E w a β st o (.lookup ag kd m x z ok)) {j:Nat} {es:List (AV×AV)} {kv v:AV} (hm:m.ev G st.fr=some (.sym j)) (hV:st.V.get j=some (.mp es)) (hx:x.ev G st.fr=some kv) (hko:zCB ag kd kv=true)
  (hv:lkR ok z (mfind ag kd kv es)=some v) (hk:k v st):OpK P G nt Z0 B0 w0 dl o w a k:=by
 have hok:(xvOK m=true/\xvOK x=true)/\z7 12 z=true:=by have:=c.ok;simp only [opOK,XO.opnds,zH,List.all_append,List.all_cons,List.all_nil,Bool.and_true,Bool.and_eq_true] at this;exact this
 obtain ⟨t,rfl,ht⟩:=zFX c.hG hok.1.1 hm;have hne:kv≠.sym j:=by intro e;subst e;cases hko
 obtain ⟨hp,b,h1,h2,h3⟩:=(c.s.vok j _ hV).2;have hbz:=c.s.bz j _ b hV rfl h1;have hx':=zD7 (X:=.map st.m) hx ht hne;have hj:j≠st.mv:=by have:=(c.s.vok j _ hV).1;omega
 have hzp:PP z:=zAt 12 hok.2;have hfind:∀{es:List (AV×AV)} {u:AV},(∀p∈es,PP p.1/\PP p.2)->mfind ag kd kv es=some (some u)->PP u:=by
  intro es
  induction es with
  | nil=>intro u _ h;cases h
  | cons q r ih=>
   intro u hq h;simp only [mfind] at h;split at h
   ·cases h;exact (hq _ (.head _)).2
   ·exact ih (fun p hp=>hq p (.tail _ hp)) h
   ·cases h
 have hlk:∀(b:Bool) {u:AV},PP u->PP (lkV ok b u):=fun b u hu=>by
  cases ok with
  | true=>
   refine .tup _ fun e he=>?_
   simp only [List.mem_cons,List.not_mem_nil,or_false] at he;rcases he with rfl | rfl
   ·exact hu
   ·exact .bool _
  | false=>exact hu
 have hpp:PP v:=by
  unfold lkR at hv;split at hv
  ·rename_i u hu;cases hv;exact hlk true (hfind hp hu)
  ·cases hv;exact hlk false hzp
  ·cases hv
 refine c.ext (xb:=some (b,.map es)) (fun b' o' e=>by cases e;exact ⟨h2,hbz.1,hbz.2⟩) (zBH c.s ht (X:=.map st.m) (by rw [h3];have:=VR.map (E:=extE E st.m (some (b,.map es))) (w:=w) st.m (.inr rfl);simpa [extE] using this)) (v:=v) (H':=(st.m,.map es)::st.H) (n':=st.m+1) ?_ (fun p hp=>.tail _ hp)
  (fun cv E' w' O=>⟨_,_,O.keep0 c.s (fun b' o' e=>by cases e;exact ⟨.head _,j,_,hV,rfl,h1⟩) (fun j' vi b' o' q1 q2 e q3=>?_) (fun b' o' e=>by cases e;exact hbz.2) hpp c.hd⟩) hk
 ·simp only [xoS,zZ,hx',hko,extH,extN,zED];unfold lkR at hv;split at hv
  ·rename_i u hu;cases hv;simp only [hu];cases ok <;> rfl
  ·rename_i hu;cases hv;simp only [hu];cases ok <;> rfl
  ·cases hv
 ·cases e;have:=c.s.binj j j' _ _ b hV q1 rfl q2 h1 q3;subst this;rw [hV] at q1;cases q1;have hm:=O.hr'.obj _ (.head _);rw [O.at_m b _ rfl] at hm;exact ⟨hp,b,h1,hm.bkm hp,by simp [zr,hj,h3]⟩
theorem zVv {m x y:XV} {ag:Bool} {kd:List Kd} (c:Ctx P G nt Z0 B0 w0 dl E w a β st o (.mupd ag kd m x y)) {j:Nat} {es es':List (AV×AV)} {kv u:AV} (hm:m.ev G st.fr=some (.sym j)) (hV:st.V.get j=some (.mp es)) (hx:x.ev G st.fr=some kv) (hy:y.ev G st.fr=some u) (hko:zCB ag kd kv=true) (hpk:ppS 12 kv=true) (hpu:ppS 12 u=true)
  (hput:mput ag kd kv u es=some es') (hk:k (.tup []) ⟨st.fr,st.H,(j,.mp es')::st.V.del j,st.m,st.mv⟩):OpK P G nt Z0 B0 w0 dl o w a k:=by
 have hok:(xvOK m=true/\xvOK x=true)/\xvOK y=true:=by have:=c.ok;simp only [opOK,XO.opnds,zH,List.all_append,List.all_cons,List.all_nil,Bool.and_true,Bool.and_eq_true] at this;exact this
 obtain ⟨t,rfl,ht⟩:=zFX c.hG hok.1.1 hm;have hne:kv≠.sym j:=by intro e;subst e;cases hko
 have hneu:u≠.sym j:=by intro e;subst e;cases hpu
 obtain ⟨hp,b,h1,h2,h3⟩:=(c.s.vok j _ hV).2;have hbz:=c.s.bz j _ b hV rfl h1;have hx':=zD7 (X:=.map st.m) hx ht hne;have hy':=zD7 (X:=.map st.m) hy ht hneu;have hj:j≠st.mv:=by have:=(c.s.vok j _ hV).1;omega
 have hkp:PP kv:=zBK 12 (zE c.hG c.s.cfr hok.1.2 hx) hpk;have hup:PP u:=zBK 12 (zE c.hG c.s.cfr hok.2 hy) hpu;have hp':∀{es es':List (AV×AV)},(∀p∈es,PP p.1/\PP p.2)->mput ag kd kv u es=some es'->∀p∈es',PP p.1/\PP p.2:=by
  intro es
  induction es with
  | nil=>intro es' _ h p hp;cases h;simp only [List.mem_singleton] at hp;subst hp;exact ⟨hkp,hup⟩
  | cons q r ih=>
   intro es' hq h p hp;simp only [mput] at h;split at h
   ·cases h;rcases List.mem_cons.1 hp with rfl | hp
    ·exact ⟨hkp,hup⟩
    ·exact hq p (.tail _ hp)
   ·split at h
    ·rename_i r' hr;cases h;rcases List.mem_cons.1 hp with rfl | hp
     ·exact hq _ (.head _)
     ·exact ih (fun p hp=>hq p (.tail _ hp)) hr p hp
    ·cases h
   ·cases h
 have hpe:=hp' hp hput;refine c.ext (xb:=some (b,.map es)) (fun b' o' e=>by cases e;exact ⟨h2,hbz.1,hbz.2⟩) (zBH c.s ht (X:=.map st.m) (by rw [h3];have:=VR.map (E:=extE E st.m (some (b,.map es))) (w:=w) st.m (.inr rfl);simpa [extE] using this)) (v:=.tup []) (H':=(st.m,.map es')::st.H) (n':=st.m+1) ?_ (fun p hp=>.tail _ hp)
  (fun cv E' w' O=>⟨_,_,O.replace c.s hV rfl h1 (vi1:=.mp es') rfl ?_ (.head _) (fun sz es e=>by cases e) (.tup _ fun e he=>by cases he) c.hd⟩) hk
 ·simp only [xoS,zZ,hx',hy',hko,extH,extN,zED,hput,Heap.put,Nat.beq_refl]
 ·have hm:=O.hr'.obj _ (.head _);rw [O.at_m b _ rfl] at hm;exact ⟨hpe,b,h1,hm.bkm hpe,by simp [zr,hj,h3]⟩
end
end Go.Sy
namespace Go.Sy
def TbW (P:Program) (G:Cx) (tb:TblS):Prop:=∀s∈tb,∀args v,s.2.1 args->s.2.2 args=some v->Enters P s.1/\PP v/\∀H nx,FnT P G s.1 args H nx v H nx
theorem zDi:∀{tb:TblS} {f:Nat} {args:List AV} {k:AV->Prop},zEB tb f args k->∃s∈tb,s.1=f/\s.2.1 args/\∃v,s.2.2 args=some v/\k v
 | [],f,args,k,h=>h.elim
 | s::r,f,args,k,h=>by
  simp only [zEB] at h;split at h
  ·rename_i e;obtain ⟨h1,h2⟩:=h;split at h2
   ·rename_i v hv;exact ⟨s,.head _,(zb e).symm,h1,v,hv,h2⟩
   ·exact h2.elim
  ·obtain ⟨s',h1,h2⟩:=zDi h;exact ⟨s',.tail _ h1,h2⟩
open Classical in
noncomputable def zME (f0:Nat) (a0:List AV) (v:AV):Call:=fun f args H nx=>if f=f0/\args=a0 then some (v,H,nx) else none
theorem zLR {P:Program} {G:Cx} {f:Nat} {args:List AV} {v:AV} (h1:Enters P f) (h2:∀H nx,FnT P G f args H nx v H nx):zD3 P G (zME f args v):=by
 intro f' args' H nx v' H' nx' h;simp only [zME] at h;split at h
 ·rename_i e;obtain ⟨rfl,rfl⟩:=e;cases h;exact ⟨h1,Nat.le_refl _,h2 _ _⟩
 ·cases h
theorem zG2 {f:Nat} {args:List AV} {v:AV} {H:Heap} {nx:Nat}:zME f args v f args H nx=some (v,H,nx):=by simp [zME]
theorem zAj {f:AV->Option AV}:∀{xs ys:List AV},zp f xs=some ys->ys.length=xs.length/\∀(i:Nat) x y,xs[i]? = some x->ys[i]? = some y->f x=some y
 | [],ys,h=>by cases h;exact ⟨rfl,fun i x y hx=>by simp at hx⟩
 | x::xs,ys,h=>by
  simp only [zp] at h;split at h
  ·rename_i v hv;split at h
   ·rename_i r hr;cases h;obtain ⟨h1,h2⟩:=zAj hr;refine ⟨by simp [h1],fun i x' y hx hy=>?_⟩
    cases i with
    | zero=>simp at hx hy;subst hx;subst hy;exact hv
    | succ i=>exact h2 i x' y (by simpa using hx) (by simpa using hy)
   ·cases h
  ·cases h
theorem zHu {f:AV->Option AV}:∀{a b ys:List AV},zp f (a++b)=some ys->∃x y,zp f a=some x/\zp f b=some y/\ys=x++y
 | [],b,ys,h=>⟨[],ys,rfl,h,rfl⟩
 | e::r,b,ys,h=>by
  simp only [List.cons_append,zp] at h;split at h
  ·rename_i v hv;split at h
   ·rename_i q hq;cases h;obtain ⟨x,y,h1,h2,rfl⟩:=zHu hq;exact ⟨v::x,y,by simp only [zp,hv,h1],h2,rfl⟩
   ·cases h
  ·cases h
theorem zEE {f g:AV->Option AV} (hfg:∀x y,f x=some y->g x=some y):∀{xs ys:List AV},zp f xs=some ys->zp g xs=some ys
 | [],ys,h=>h
 | x::xs,ys,h=>by
  simp only [zp] at h ⊢;split at h
  ·rename_i v hv;rw [hfg _ _ hv];split at h
   ·rename_i r hr;rw [zEE hfg hr];exact h
   ·cases h
  ·cases h
theorem zHg {n k:Nat}:∀(d:Nat) {v:AV},CP n k v->hasH d v=false->PP v:=by
 intro d
 induction d with
 | zero=>intro v _ h;cases h
 | succ d ih=>
  intro v hc h;have al:∀{l:List AV},(∀e∈l,CP n k e)->l.any (hasH d)=false->∀e∈l,PP e:=fun hc hl e he=>ih (hc e he) (by
   rw [List.any_eq_false] at hl
   simpa using hl e he)
  cases hc with
  | bool b=>exact .bool b
  | int k m=>exact .int k m
  | str s=>exact .str s
  | nilptr=>exact .nilptr
  | nilslice=>exact .nilslice
  | nilmap=>exact .nilmap
  | nilfunc=>exact .nilfunc
  | niliface=>exact .niliface
  | eptr e off he=>exact .eptr e off he
  | lst sz es he=>exact .lst sz es he
  | func fn a b ha hb=>
   have h:(a.any (hasH d)||b.any (hasH d))=false:=h;rw [Bool.or_eq_false_iff] at h;exact .func fn a b (al ha h.1) (al hb h.2)
  | iface t v hv=>exact .iface t v (ih hv h)
  | agg cs hs=>exact .agg cs (al hs h)
  | tup cs hs=>exact .tup cs (al hs h)
  | _=>cases h
theorem zRx:∀(d:Nat) {v:AV},hasH d v=false->hasH (d+1) v=false:=by
 intro d
 induction d with
 | zero=>intro v h;cases h
 | succ d ih=>
  intro v h;have al:∀{l:List AV},l.any (hasH d)=false->l.any (hasH (d+1))=false:=fun hl=>by
   rw [List.any_eq_false] at hl ⊢;intro x hx;have:=ih (v:=x) (by simpa using hl x hx)
   simp [this]
  cases v with
  | func fn a b=>
   have h:(a.any (hasH d)||b.any (hasH d))=false:=h;rw [Bool.or_eq_false_iff] at h;show (a.any (hasH (d+1))||b.any (hasH (d+1)))=false
   rw [al h.1,al h.2];rfl
  | iface t v=>exact ih h
  | agg cs=>exact al h
  | tup cs=>exact al h
  | _=>exact h
theorem zSK {H:Heap} {V:Vecs}:∀(d:Nat) {v v':AV},frz H V d v=some v'->frz H V (d+1) v=some v':=by
 intro d
 induction d with
 | zero=>intro v v' h;cases h
 | succ d ih=>
  intro v v' h;unfold frz at h ⊢;split at h
  ·exact h
  ·split at h
   ·split at h
    ·rename_i cs' hcs;rw [zEE (fun x y=>ih) hcs]
     exact h
    ·cases h
   ·cases h
  ·split at h
   ·rename_i a' ha;rw [zEE (fun x y=>ih) ha]
    split at h
    ·rename_i b' hb;rw [zEE (fun x y=>ih) hb]
     exact h
    ·cases h
   ·cases h
  ·split at h
   ·rename_i cs' hcs;rw [zEE (fun x y=>ih) hcs]
    exact h
   ·cases h
  ·exact h
  ·split at h
   ·cases h
   ·rename_i hh;rw [zRx d hh];exact h
theorem zRy {H:Heap} {V:Vecs}:∀(d:Nat) {v v':AV},PP v->frz H V d v=some v'->v'=v:=by
 intro d
 induction d with
 | zero=>intro v v' _ h;cases h
 | succ d ih=>
  intro v v' hp h;have al:∀{l l':List AV},(∀e∈l,PP e)->zp (frz H V d) l=some l'->l'=l:=by
   intro l
   induction l with
   | nil=>intro l' _ h;cases h;rfl
   | cons e r ihl=>
    intro l' hl h;simp only [zp] at h;split at h
    ·rename_i u hu;split at h
     ·rename_i q hq;cases h;rw [ih (hl _ (.head _)) hu,ihl (fun e he=>hl e (.tail _ he)) hq]
     ·cases h
    ·cases h
  unfold frz at h;cases hp with
  | func fn a b ha hb=>
   simp only at h;split at h
   ·rename_i a' hha;split at h
    ·rename_i b' hhb;cases h;rw [al ha hha,al hb hhb]
    ·cases h
   ·cases h
  | agg cs hs=>
   simp only at h;split at h
   ·rename_i cs' hcs;cases h;rw [al hs hcs]
   ·cases h
  | _=>
   simp only at h;split at h
   ·cases h
   ·cases h;rfl
section
variable {P:Program} {G:Cx} {nt:Nat} {E:Env} {w:World} {a:Act} {β:Nat->Option Nat} {st:Sta}
 {Z0 B0:Nat->Prop} {w0:World} {dl:List Deferred} {o:Oper} {k:AV->Sta->Prop}
theorem zOH {e:AV} {sz:Nat} {xs:List AV} {vs:List Value} (hc:cellsOf e sz=some xs) (hv:VRs E w xs vs) (h1:∀v∈vs,v.oneCell'=true):∃u,VR E w e u/\u.cells.toList=vs:=by
 obtain ⟨h2,h3,h4⟩:=zD hc;cases e with
 | agg cs=>
  have h3:cs=xs:=h3;subst h3;exact ⟨.agg vs.toArray,VR.mk_agg (by simpa using hv) (fun v hv=>h1 v (by simpa using hv)),by simp [Value.cells]⟩
 | tup=>cases h4
 | _=>
  have h3:[_]=xs:=h3;subst h3;obtain ⟨v,vs',rfl,k1,k2⟩:=hv.of_cons;have:=k2.of_nil;subst this;have hv1:v.oneCell'=true:=h1 v (.head _);refine ⟨v,k1,?_⟩
  cases v <;> first | (simp [Value.oneCell'] at hv1;done) | simp [Value.cells]
def frzE (E:Env) (β:Nat->Option Nat) (H:Heap) (V:Vecs):Env:=⟨E.ρ,fun _=>False,fun x=>E.Z x\/BS E β H V x,E.σ⟩
theorem zJu {b:Nat} {str:Bool} {cs:List AV} (h:OR E w b (.cells str cs)):∃vs:List Value,VRs E w cs vs/\(∀v∈vs,v.oneCell'=true)/\∀(j:Nat) c,vs[j]? = some c->w.cell? ⟨b,j,none⟩=some c:=by
 obtain ⟨c,e,f,h1,h2,h3,h4⟩:=h;have hg:∀(i:Nat) (x:AV) (v:Value),cs[i]? = some x->(c.toList.take cs.length)[i]? = some v->v.oneCell'=true/\VR E w x v/\c[i]? = some v:=fun i x v hx hv=>by
  obtain ⟨u,k1,k2,k3⟩:=h4 i x hx;have hi:i<cs.length:=(List.getElem?_eq_some_iff.1 hx).1;rw [List.getElem?_take,if_pos hi] at hv;have:c[i]? = some v:=by simpa using hv
  rw [k1] at this;cases this;exact ⟨k2,k3,k1⟩
 have hlen:(c.toList.take cs.length).length=cs.length:=by simp;omega
 refine ⟨c.toList.take cs.length,⟨hlen.symm,fun i x v hx hv=>(hg i x v hx hv).2.1⟩,fun v hv=>?_,fun j u hu=>?_⟩
 ·obtain ⟨i,hi⟩:=List.getElem?_of_mem hv;have hlt:i<cs.length:=by have:=(List.getElem?_eq_some_iff.1 hi).1;omega
  exact (hg i _ v (List.getElem?_eq_getElem hlt) hi).1
 ·have hlt:j<cs.length:=by have:=(List.getElem?_eq_some_iff.1 hu).1;omega
  have:=(hg j _ u (List.getElem?_eq_getElem hlt) hu).2.2;simp only [World.cell?,h1];exact this
theorem zD8 (s:SR G nt E w a β st):∀(d:Nat) {v v':AV} {cv:Value},CP st.mv st.m v->VR E w v cv->frz st.H st.V d v=some v'->VR (frzE E β st.H st.V) w v' cv:=by
 have hpp:∀{v:AV} {cv:Value},PP v->VR E w v cv->VR (frzE E β st.H st.V) w v cv:=fun hp hv=>VR.pp (E:=E) (E':=frzE E β st.H st.V) (w:=w) (w':=w) (fun b hb=>⟨.inl hb,rfl⟩) hv hp
 intro d
 induction d with
 | zero=>intro v v' cv _ _ h;cases h
 | succ d ih=>
  intro v v' cv hcp hv h;have al:∀{xs ys:List AV} {vs:List Value},(∀e∈xs,CP st.mv st.m e)->VRs E w xs vs->zp (frz st.H st.V d) xs=some ys->VRs (frzE E β st.H st.V) w ys vs:=fun hc hvs hm=>by
   obtain ⟨m1,m2⟩:=zAj hm;refine ⟨m1.trans hvs.1,fun i y u hy hu=>?_⟩
   have hi:i<_:=(List.getElem?_eq_some_iff.1 hy).1;rw [m1] at hi;have hx:=List.getElem?_eq_getElem hi;exact ih (hc _ (List.mem_of_getElem? hx)) (hvs.2 i _ u hx hu) (m2 i _ y hx hy)
  unfold frz at h;split at h
  ·
   rename_i j;split at h
   ·rename_i sz es hV;cases h;have hcv:=hv.sym_val;subst hcv;obtain ⟨hes,⟨h1,h2,rfl⟩ | ⟨b,str,cs,cp,ex,vi⟩⟩:=zE9 s hV
    ·rw [h2];exact .lst0 _ _ _ (Nat.zero_le _)
    ·rcases vi.row with ⟨ad,e1,e2,_⟩ | ⟨cap,e1,hlen,hcap,hsz,_,_,_⟩
     ·have:=List.eq_nil_of_length_eq_zero e2;subst this;rw [e1];exact .lst0 _ _ _ (Nat.zero_le _)
     ·rw [e1];obtain ⟨vs,k1,k2,k3⟩:=zJu vi.hor;obtain ⟨q1,q2⟩:=zJ vi.hfl;have key:∀i,∃u:Value,∀e,es[i]? = some e->VR E w e u/\e.flat=true/\u.cells.toList=(vs.drop (i*sz)).take sz:=by
       intro i;cases he:es[i]? with
       | none=>exact ⟨.bool true,fun e h=>by cases h⟩
       | some e=>
        have hi:i<es.length:=(List.getElem?_eq_some_iff.1 he).1;have hisz:i*sz+sz<=es.length*sz:=by rw [←Nat.succ_mul];exact Nat.mul_le_mul_right _ hi
        have hce:=q2 i e he;rw [List.drop_take,List.take_take,Nat.min_eq_left (by omega)] at hce
        obtain ⟨u,r1,r2⟩:=zOH hce (k1.extract (i*sz) sz) (fun v hv=>k2 v (List.mem_of_mem_drop (List.mem_of_mem_take hv)))
        exact ⟨u,fun e' h=>by cases h;exact ⟨r1,(zD hce).2.2,r2⟩⟩
      obtain ⟨f,hf⟩:=Classical.axiomOfChoice key;refine .lst es b 0 cap sz f (.inr (.inr ⟨j,_,hV,rfl,vi.hb⟩)) hlen hcap (fun i e he=>?_) (fun i e he=>hpp (hes e (List.mem_of_getElem? he)) (hf i e he).1) (fun i hi=>?_)
      ·have:=(hf i e he).2.1;unfold AV.flat at this;exact this
      ·have he:es[i]? = some es[i]:=List.getElem?_eq_getElem hi;obtain ⟨_,_,h3⟩:=hf i _ he;have hvl:vs.length=cs.length:=k1.1.symm;have hisz:i*sz+sz<=es.length*sz:=by rw [←Nat.succ_mul];exact Nat.mul_le_mul_right _ hi
       have:=vi.hl;refine ⟨?_,fun j' c hc=>?_⟩
       ·have:(f i).cells.toList.length=sz:=by rw [h3];simp;omega
        simpa using this
       ·have hc':(f i).cells.toList[j']? = some c:=by simpa using hc
        rw [h3,List.getElem?_take] at hc';split at hc'
        ·rw [List.getElem?_drop] at hc';have:=k3 _ c hc';rw [Nat.zero_add];exact this
        ·cases hc'
   ·cases h
  ·
   rename_i hh off;split at h
   ·rename_i str cs hg;split at h
    ·rename_i cs' hcs;cases h;have hmem:=Heap.mem_of_get hg;have hor:=s.hr.obj _ hmem;obtain ⟨vs,k1,k2,k3⟩:=zJu hor;obtain ⟨_,_,e1,hcc⟩:=s.cH.get hg;cases e1;cases hv with
     | ptr _ _ hd=>
      have:=VR.eptr (E:=frzE E β st.H st.V) (w:=w) (.agg cs') off (E.ρ hh) 0 (.agg vs.toArray) rfl (.inr (.inl ⟨_,hmem,rfl⟩)) (VR.mk_agg (by simpa using al hcc k1 hcs) (fun v hv=>k2 v (by simpa using hv))) (fun j c hj=>by
       rw [Nat.zero_add];exact k3 j c (by simpa [Value.cells] using hj))
      rw [Nat.zero_add] at this;exact this
    ·cases h
   ·cases h
  ·rename_i f x y;split at h
   ·rename_i x' hx;split at h
    ·rename_i y' hy;cases h;cases hcp with
     | func _ _ _ ha hb=>
      cases hv with
      | func _ _ _ vf vc hf hc rf rc=>
       obtain ⟨g1,g2⟩:=al (vs:=vf.toList) ha ⟨by simpa using hf,fun i x v hx hv=>rf i x v hx (by simpa using hv)⟩ hx
       obtain ⟨g3,g4⟩:=al (vs:=vc.toList) hb ⟨by simpa using hc,fun i x v hx hv=>rc i x v hx (by simpa using hv)⟩ hy
       exact .func _ _ _ vf vc (by simpa using g1) (by simpa using g3) (fun i x v hx hv=>g2 i x v hx (by simpa using hv)) (fun i x v hx hv=>g4 i x v hx (by simpa using hv))
    ·cases h
   ·cases h
  ·rename_i cs;split at h
   ·rename_i cs' hcs;cases h;cases hcp with
    | agg _ hc=>
     obtain ⟨vs,rfl,k1,k2⟩:=hv.of_agg;exact VR.mk_agg (al hc k1 hcs) k2
   ·cases h
  ·rename_i hh off len sz cp ex;split at h
   ·rename_i str cs hg;split at h
    ·rename_i hle;split at h
     ·rename_i es hr;split at h
      ·rename_i hpe;cases h;obtain ⟨_,_,e1,hcc⟩:=s.cH.get hg;cases e1;obtain ⟨q1,q2,q3,q4,q5⟩:=zW hr;obtain ⟨g1,g2⟩:=zJ q5;have hes:∀e∈es,PP e:=by
        intro e he;obtain ⟨i,hi⟩:=List.getElem?_of_mem he;obtain ⟨r1,r2,r3⟩:=zD (g2 i e hi);refine zBK (n:=st.mv) (k:=st.m) 8 (zBe r3 fun x hx=>hcc x ?_) (List.all_eq_true.1 hpe e he)
        rw [r2] at hx;exact List.mem_of_mem_drop (List.mem_of_mem_take (List.mem_of_mem_drop (List.mem_of_mem_take hx)))
       have hmem:=Heap.mem_of_get hg;cases hv with
       | row0 _ _ _ _ ad=>
        have:=List.eq_nil_of_length_eq_zero q2;subst this;exact .lst0 _ _ _ (Nat.zero_le _)
       | row _ _ _ _ _ cap _ hD hlen hcap hsz0 hcp hex hbk=>
        obtain ⟨vs,k1,k2,k3⟩:=zJu (s.hr.obj _ hmem);have k1':=k1.extract off cs.length;have hdl:(cs.drop off).take cs.length=cs.drop off:=List.take_of_length_le (by simp)
        rw [hdl] at k1';have hle:=Nat.le_of_ble_eq_true hle;have key:∀i,∃u:Value,∀e,es[i]? = some e->VR E w e u/\e.flat=true/\u.cells.toList=(((vs.drop off).take cs.length).drop (i*sz)).take sz:=by
         intro i;cases he:es[i]? with
         | none=>exact ⟨.bool true,fun e h=>by cases h⟩
         | some e=>
          have hi:i<es.length:=(List.getElem?_eq_some_iff.1 he).1;have hisz:i*sz+sz<=len*sz:=by rw [←Nat.succ_mul,←q2];exact Nat.mul_le_mul_right _ hi
          have hce:=g2 i e he;rw [List.drop_take,List.take_take,Nat.min_eq_left (by omega)] at hce
          obtain ⟨u,r1,r2⟩:=zOH hce (k1'.extract (i*sz) sz) (fun v hv=>k2 v (List.mem_of_mem_drop (List.mem_of_mem_take (List.mem_of_mem_drop (List.mem_of_mem_take hv)))))
          exact ⟨u,fun e' h=>by cases h;exact ⟨r1,(zD hce).2.2,r2⟩⟩
        obtain ⟨f,hf⟩:=Classical.axiomOfChoice key;rw [←q2] at hlen ⊢;refine .lst es (E.ρ hh) off cap sz f (.inr (.inl ⟨_,hmem,rfl⟩)) hlen hcap (fun i e he=>?_) (fun i e he=>hpp (hes e (List.mem_of_getElem? he)) (hf i e he).1) (fun i hi=>?_)
        ·have:=(hf i e he).2.1;unfold AV.flat at this;exact this
        ·have he:es[i]? = some es[i]:=List.getElem?_eq_getElem hi;obtain ⟨_,_,h3⟩:=hf i _ he;have hvl:vs.length=cs.length:=k1.1.symm;have hisz:i*sz+sz<=len*sz:=by rw [←Nat.succ_mul,←q2];exact Nat.mul_le_mul_right _ hi
         refine ⟨?_,fun j' c hc=>?_⟩
         ·have:(f i).cells.toList.length=sz:=by rw [h3];simp;omega
          simpa using this
         ·have hc':(f i).cells.toList[j']? = some c:=by simpa using hc
          rw [h3,List.getElem?_take] at hc';split at hc'
          ·rw [List.getElem?_drop,List.getElem?_take] at hc';split at hc'
           ·rw [List.getElem?_drop] at hc';have:=k3 _ c hc';rw [Nat.add_assoc];exact this
           ·cases hc'
          ·cases hc'
      ·cases h
     ·cases h
    ·cases h
   ·cases h
  ·split at h
   ·cases h
   ·rename_i hh;cases h;exact hpp (zHg d hcp hh) hv
end
end Go.Sy
namespace Go.Sy
theorem zNx {E E':Env} {w:World}:∀(d:Nat) {v:AV} {cv:Value},zAM d v=true->VR E w v cv->VR E' w v cv:=by
 intro d
 induction d with
 | zero=>intro v cv h;cases h
 | succ d ih=>
  intro v cv h hv;cases hv with
  | bool b=>exact .bool b
  | int k n hh=>exact .int k n hh
  | str l s hh hl=>exact .str l s hh hl
  | nilptr=>exact .nilptr
  | nilslice=>exact .nilslice
  | nilmap=>exact .nilmap
  | nilfunc=>exact .nilfunc
  | niliface=>exact .niliface
  | iface t v cv hv=>exact .iface t v cv (ih h hv)
  | agg cs vs hl hx h1=>
   have h:cs.all (zAM d)=true:=h;exact .agg cs vs hl (fun i x v hi hj=>ih (List.all_eq_true.1 h x (List.mem_of_getElem? hi)) (hx i x v hi hj)) h1
  | tup cs vs hl hx=>
   have h:cs.all (zAM d)=true:=h;exact .tup cs vs hl (fun i x v hi hj=>ih (List.all_eq_true.1 h x (List.mem_of_getElem? hi)) (hx i x v hi hj))
  | _=>cases h
theorem zCx {b:Bool} {A B:Prop} (h:Br b A B):(b=true/\A)\/(b=false/\B):=by
 cases b with
 | true=>exact .inl ⟨rfl,h⟩
 | false=>exact .inr ⟨rfl,h⟩
section
variable {P:Program} {G:Cx} {nt:Nat} {E:Env} {w:World} {a:Act} {β:Nat->Option Nat} {st:Sta}
 {Z0 B0:Nat->Prop} {w0:World} {dl:List Deferred} {o:Oper} {k:AV->Sta->Prop} {tb:TblS}
theorem zOI {xop:XO} (c:Ctx P G nt Z0 B0 w0 dl E w a β st o xop) {f:Nat} {args':List AV} {v:AV} {fr':Fr} (hf':FrR (frzE E β st.H st.V) w fr' a nt) (hx:xoS G (zME f args' v) fr' [] 0 xop=some (v,[],0)) (h1:Enters P f) (h2:∀H nx,FnT P G f args' H nx v H nx) (hs:zAM 8 v=true) (hpp:PP v)
  (hk:k v st):OpK P G nt Z0 B0 w0 dl o w a k:=by
 intro next Q hn;have hzlt:∀b,(frzE E β st.H st.V).Z b->b<w.heap.size:=by
  rintro b (hb | ⟨p,hp,rfl⟩ | ⟨j,vi,q1,q2,q3⟩)
  ·exact c.s.hr.zlt b hb
  ·exact c.s.hr.lt hp
  ·exact (c.s.vok j vi q1).2.lt q2 q3
 have hr0:HR (frzE E β st.H st.V) [] w:=⟨.nil,fun p hp=>by simp at hp,fun p hp=>by simp at hp,fun p hp=>by simp at hp,fun p hp=>by simp at hp,hzlt⟩
 have hg0:GR G (frzE E β st.H st.V) w:=fun g u h=>⟨VR.pp (E:=E) (E':=frzE E β st.H st.V) (w:=w) (w':=w) (fun b hb=>⟨.inl hb,rfl⟩) (c.s.hg g u h).1 (c.hG g u h),(c.s.hg g u h).2⟩
 refine zFr hr0 hf' hg0 c.hm (zLR h1 h2) c.hc (fun h _ _ hD=>hD) hx next Q fun cv E' w' k1 k2 k3=>?_
 have hold:∀x,x<w.heap.size->w'.heap[x]? = w.heap[x]?:=fun x hx=>k2.old x hx fun p hp=>by simp at hp
 have hm:∀{u cu},VR E w u cu->VR E w' u cu:=fun hu=>VR.mono (E:=E) (E':=E) (fun _ h=>⟨h,rfl⟩) (fun b hb=>⟨hb,hold b (c.s.hr.zlt b hb)⟩) k2.shapes hu
 have hs':=c.s;refine hn v st cv E w' hk (zQx (E:=E) (E2:=E) (w:=w) (β:=β) (β2:=β) (st:=st) (st2:=st.put o.dst v) ⟨⟨⟨hs'.hr.nodup,hs'.hr.dom,hs'.hr.inj,fun p hp=>(hs'.hr.obj p hp).mono (hold _ (hs'.hr.lt hp)) hm,hs'.hr.nz,fun b hb=>Nat.lt_of_lt_of_le (hs'.hr.zlt b hb) k2.size⟩,hs'.hf.put hm c.hd (zNx 8 hs k3),fun g u h=>⟨hm (hs'.hg g u h).1,(hs'.hg g u h).2.mono k2.shapes⟩,hs'.dom,hs'.cfr.putd hpp.cp,hs'.cH,fun j vi h=>⟨(hs'.vok j vi h).1,(hs'.vok j vi h).2.mono rfl (fun _=>rfl) (fun b ho hb=>hold b ((hs'.vok j vi h).2.lt ho hb)) (fun b hb=>⟨hb,hold b (hs'.hr.zlt b hb)⟩) k2.shapes fun _ _ _ _ sz es h=>⟨rfl,es,h,rfl⟩⟩,hs'.vp,hs'.bz,hs'.binj⟩,
  ⟨fun _ h=>h,fun _ h=>.inl h,fun _ h=>.inl h,k2.tape,k2.os,k2.output,k2.size,fun x hx _=>hold x hx,k2.shapes⟩⟩ c.kp c.df)
theorem zSL {H:Heap} {V:Vecs} {d:Nat} {f:Fn} {a b x y:List AV} (ha:zp (frz H V d) a=some x) (hb:zp (frz H V d) b=some y):frz H V (d+1) (.func f a b)=some (.func f x y):=by
 conv=>lhs;unfold frz
 simp only [ha,hb]
def zG3:List XV->List AV->Fr
 | .t t::xs,v::vs=>(t,v)::zG3 xs vs
 | _::xs,_::vs=>zG3 xs vs
 | _,_=>[]
theorem zKx {G:Cx} {fr:Fr} {f:AV->Option AV}:∀{xs:List XV} {vs vs':List AV},evs G fr xs=some vs->zp f vs=some vs'->∀t,((zG3 xs vs').get t=none/\XV.t t ∉ xs)\/∃v v',fr.get t=some v/\f v=some v'/\(zG3 xs vs').get t=some v'
 | [],vs,vs',h,h',t=>.inl ⟨by cases vs' <;> rfl,by simp⟩
 | x::xs,vs,vs',h,h',t=>by
  simp only [evs] at h;split at h
  ·rename_i v hv;split at h
   ·rename_i us hus;cases h;simp only [zp] at h';split at h'
    ·rename_i v' hv';split at h'
     ·rename_i us' hus';cases h';have ih:=zKx hus hus' t;cases x with
      | t n=>
       simp only [zG3,Fr.get];by_cases e:n=t
       ·subst e;simp only [Nat.beq_refl];exact .inr ⟨v,v',hv,hv',rfl⟩
       ·have:Nat.beq n t=false:=by
         cases hb:Nat.beq n t with
         | false=>rfl
         | true=>exact absurd (zb hb) e
        simp only [this];rcases ih with ⟨i1,i2⟩ | ih
        ·exact .inl ⟨i1,by simp only [List.mem_cons,XV.t.injEq,not_or];exact ⟨fun h=>e h.symm,i2⟩⟩
        ·exact .inr ih
      | c u=>
       rcases ih with ⟨i1,i2⟩ | ih
       ·exact .inl ⟨i1,by simpa using i2⟩
       ·exact .inr ih
      | g u=>
       rcases ih with ⟨i1,i2⟩ | ih
       ·exact .inl ⟨i1,by simpa using i2⟩
       ·exact .inr ih
     ·cases h'
    ·cases h'
   ·cases h
  ·cases h
theorem zKy {G:Cx} {fr fr':Fr} {H:Heap} {V:Vecs} {d:Nat} (hG:GPP G):∀{xs:List XV} {vs vs':List AV},xs.all xvOK=true->(∀t,XV.t t∈xs->∀v v',fr.get t=some v->frz H V d v=some v'->fr'.get t=some v')->evs G fr xs=some vs->zp (frz H V d) vs=some vs'->evs G fr' xs=some vs'
 | [],vs,vs',_,_,h,h'=>by cases h;cases h';rfl
 | x::xs,vs,vs',hok,hg,h,h'=>by
  rw [List.all_cons,Bool.and_eq_true] at hok;simp only [evs] at h ⊢;split at h
  ·rename_i v hv;split at h
   ·rename_i us hus;cases h;simp only [zp] at h';split at h'
    ·rename_i v' hv';split at h'
     ·rename_i us' hus';cases h';have ih:=zKy hG hok.2 (fun t ht=>hg t (.tail _ ht)) hus hus'
      have hx:x.ev G fr'=some v':=by
       cases x with
       | t n=>exact hg n (.head _) v v' hv hv'
       | c u=>cases hv;rw [zRy d (zAt 12 hok.1) hv'];rfl
       | g u=>rw [zRy d (hG u v hv) hv'];exact hv
      rw [hx,ih]
     ·cases h'
    ·cases h'
   ·cases h
  ·cases h
theorem zVw {f:Nat} {xs:List XV} (htb:TbW P G tb) (c:Ctx P G nt Z0 B0 w0 dl E w a β st o (.call f xs)) {vs:List AV} (hv:evs G st.fr xs=some vs) (h:wcall tb f vs st k):OpK P G nt Z0 B0 w0 dl o w a k:=by
 have hok:xs.all xvOK=true:=by have:=c.ok;simp only [opOK,XO.opnds,zH,Bool.and_true] at this;exact this
 unfold wcall at h;split at h
 ·obtain ⟨s,hs,rfl,hpre,v,hval,hk⟩:=zDi h;obtain ⟨q1,q2,q3⟩:=htb s hs vs v hpre hval;exact c.gen (zLR q1 q3) (by simp only [xoS,hv,zG2]) q2.cp c.s.cH hk
 ·split at h
  ·rename_i vs' hvs';obtain ⟨s,hs,rfl,hpre,v,hval,hk⟩:=zDi h;obtain ⟨q1,q2,q3⟩:=htb s hs vs' v hpre hval;split at hk
   rotate_left
   ·exact hk.elim
   rename_i hsc;have hget:=zKx (f:=frz st.H st.V 8) hv hvs';refine zOI c (fr':=zG3 xs vs') ⟨c.s.hf.size,fun t u ht=>?_⟩ ?_ q1 q3 hsc q2 hk
   ·rcases hget t with ⟨e,_⟩ | ⟨v1,v2,e1,e2,e3⟩
    ·rw [e] at ht;cases ht
    ·rw [e3] at ht;cases ht;exact zD8 c.s 8 (c.s.cfr t v1 e1) (c.s.hf.get t v1 e1) e2
   ·have:=zKy (fr':=zG3 xs vs') c.hG hok (fun t ht v1 v2 e1 e2=>by
     rcases hget t with ⟨_,e⟩ | ⟨v3,v4,e3,e4,e5⟩
     ·exact absurd ht e
     ·rw [e1] at e3;cases e3;rw [e2] at e4;cases e4;exact e5) hv hvs'
    simp only [xoS,this,zG2]
  ·exact h.elim
theorem zUe {fx:XV} {xs:List XV} (htb:TbW P G tb) (c:Ctx P G nt Z0 B0 w0 dl E w a β st o (.callv fx xs)) {f:Nat} {first caps vs:List AV} (hf:fx.ev G st.fr=some (.func (.func f) first caps)) (hv:evs G st.fr xs=some vs) (h:wcall tb f (first++vs++caps) st k):OpK P G nt Z0 B0 w0 dl o w a k:=by
 have hok:xvOK fx=true/\xs.all xvOK=true:=by have:=c.ok;simp only [opOK,XO.opnds,zH,List.all_append,List.all_cons,List.all_nil,Bool.and_true,Bool.and_eq_true] at this;exact this
 unfold wcall at h;split at h
 ·obtain ⟨s,hs,rfl,hpre,v,hval,hk⟩:=zDi h;obtain ⟨q1,q2,q3⟩:=htb s hs _ v hpre hval;exact c.gen (zLR q1 q3) (by simp only [xoS,hf,hv,applyf,zG2]) q2.cp c.s.cH hk
 ·split at h
  ·rename_i vs' hvs';obtain ⟨s,hs,rfl,hpre,v,hval,hk⟩:=zDi h;obtain ⟨q1,q2,q3⟩:=htb s hs vs' v hpre hval;split at hk
   rotate_left
   ·exact hk.elim
   rename_i hsc;obtain ⟨xy,caps',h1,h2,rfl⟩:=zHu hvs';obtain ⟨first',ws',h3,h4,rfl⟩:=zHu h1;have hfz:frz st.H st.V 9 (.func (.func s.1) first caps)=some (.func (.func s.1) first' caps'):=zSL h3 h2;have hw9:zp (frz st.H st.V 9) vs=some ws':=zEE (fun x y=>zSK 8) h4
   have hev:evs G st.fr (fx::xs)=some (.func (.func s.1) first caps::vs):=by simp only [evs,hf,hv]
   have hmp:zp (frz st.H st.V 9) (.func (.func s.1) first caps::vs)=some (.func (.func s.1) first' caps'::ws'):=by simp only [zp,hfz,hw9]
   have hget:=zKx (f:=frz st.H st.V 9) hev hmp;refine zOI c (fr':=zG3 (fx::xs) (.func (.func s.1) first' caps'::ws')) ⟨c.s.hf.size,fun t u ht=>?_⟩ ?_ q1 q3 hsc q2 hk
   ·rcases hget t with ⟨e,_⟩ | ⟨v1,v2,e1,e2,e3⟩
    ·rw [e] at ht;cases ht
    ·rw [e3] at ht;cases ht;exact zD8 c.s 9 (c.s.cfr t v1 e1) (c.s.hf.get t v1 e1) e2
   ·have:=zKy (fr':=zG3 (fx::xs) (.func (.func s.1) first' caps'::ws')) c.hG (xs:=fx::xs) (by rw [List.all_cons,hok.1,hok.2];rfl) (fun t ht v1 v2 e1 e2=>by
     rcases hget t with ⟨_,e⟩ | ⟨v3,v4,e3,e4,e5⟩
     ·exact absurd ht e
     ·rw [e1] at e3;cases e3;rw [e2] at e4;cases e4;exact e5) hev hmp
    simp only [evs] at this;split at this
    ·rename_i g1 hg1;split at this
     ·rename_i g2 hg2;cases this;simp only [xoS,hg1,hg2,applyf,zG2]
     ·cases this
    ·cases this
  ·exact h.elim
theorem zJv {k:IntKind} {n:Int} {dflt top:Nat} (h0:0<=n) (h1:n.toNat<=top):bnd (some (.int k n)) dflt top=some n.toNat:=by
 obtain ⟨m,rfl⟩:=Int.eq_ofNat_of_zero_le h0;rw [Int.toNat_natCast] at h1 ⊢;have:Nat.ble m top=true:=by rw [Nat.ble_eq];exact h1
 show (match Nat.ble m top with | true=>some m | false=>none)=some m
 rw [this]
theorem zGs {N:Nat} {lo hi:Option AV} {k:Int->Int->Prop} (h:zGz (.ofNat N) lo hi k):∃l r:Int,k l r/\bnd hi N N=some r.toNat/\bnd lo 0 r.toNat=some l.toNat/\l.toNat<=r.toNat/\r.toNat<=N:=by
 unfold zGz at h;split at h
 ·split at h
  ·exact ⟨0,.ofNat N,h,rfl,rfl,Nat.zero_le _,Nat.le_refl _⟩
  ·rename_i kd r;obtain ⟨⟨h1,h2⟩,h3⟩:=h;have h2:r<=(N:Int):=h2;exact ⟨0,r,h3,zJv h1 (by omega),rfl,Nat.zero_le _,by omega⟩
  ·exact h.elim
 ·rename_i kd l;split at h
  ·obtain ⟨⟨h1,h2⟩,h3⟩:=h;have h2:l<=(N:Int):=h2;refine ⟨l,.ofNat N,h3,rfl,zJv h1 ?_,?_,Nat.le_refl _⟩
   ·show l.toNat<=N;omega
   ·show l.toNat<=N;omega
  ·rename_i kd' r;obtain ⟨⟨h1,h2,h2'⟩,h3⟩:=h;have h2':r<=(N:Int):=h2';exact ⟨l,r,h3,zJv (by omega) (by omega),zJv h1 (by omega),by omega,by omega⟩
  ·exact h.elim
 ·exact h.elim
theorem zOJ {fr:Fr}:evo G fr none=some none:=rfl
theorem zPU {es:List AV} {k:IntKind} {n:Int} {v:AV} (h:ixN es n=some v):idx es (.int k n)=some v/\v∈es:=by
 unfold ixN at h;split at h
 ·exact ⟨h,List.mem_of_getElem? h⟩
 ·cases h
theorem SR.known (s:SR G nt E w a β st) {n:Nat} {v:AV} (h:st.fr.get n=some v):SR G nt E w a β ⟨st.fr.put n v,st.H,st.V,st.m,st.mv⟩:=by
 have hg:∀t,(st.fr.put n v).get t=st.fr.get t:=fun t=>by
  rw [Fr.get_put];split
  ·rename_i e;subst e;exact h.symm
  ·rfl
 exact ⟨s.hr,⟨s.hf.size,fun t u hu=>s.hf.get t u (by rw [←hg t];exact hu)⟩,s.hg,s.dom,fun t u hu=>s.cfr t u (by rw [←hg t];exact hu),s.cH,s.vok,s.vp,s.bz,s.binj⟩
theorem zOK {fr:Fr} {n:Nat} {v:AV} (h:fr.get n=some v) (x:XV):x.ev G (fr.put n v)=x.ev G fr:=by
 cases x with
 | t t=>
  show (fr.put n v).get t=fr.get t
  rw [Fr.get_put];split
  ·rename_i e;subst e;exact h.symm
  ·rfl
 | _=>rfl
theorem zCD {n:Int}:∀{l:Nat} {k:Nat->Prop},zFU n l k->∀m,m<l->n=.ofNat m->k m
 | 0,k,_,m,hm,_=>by omega
 | l+1,k,h,m,hm,e=>by
  rcases Nat.lt_succ_iff_lt_or_eq.1 hm with h1 | rfl
  ·exact zCD h.1 m h1 e
  ·exact h.2 e
theorem zRz (htb:TbW P G tb) {xop:XO} {ks:List K} (c:Ctx P G nt Z0 B0 w0 dl E w a β st o xop) (h:wop G tb st xop ks k):OpK P G nt Z0 B0 w0 dl o w a k:=by
 cases xop <;> try (exact h.elim)
 all_goals try (exact c.dflt rfl h)
 case idxA x i l sz ag=>
  simp only [wop] at h;split at h
  ·exact c.dflt rfl h
  ·split at h
   ·rename_i kd n hi;obtain ⟨⟨h1,h2⟩,h3⟩:=h;obtain ⟨m,rfl⟩:=Int.eq_ofNat_of_zero_le h1;have hk:=zCD h3 m (Int.ofNat_lt.1 h2) rfl;have e:xoS G ze st.fr st.H st.m (.idxA x i l sz ag)=xoS G ze st.fr st.H st.m (.idxA x (.c (.int kd (.ofNat m))) l sz ag):=by
     have hi:i.ev G st.fr=some (.int kd (.ofNat m)):=hi;simp only [xoS];rw [hi];rfl
    exact c.dflt rfl (by rw [e];exact hk)
   ·exact h.elim
 case iaddrA x i l sz=>
  simp only [wop] at h;split at h
  ·exact c.dflt rfl h
  ·split at h
   ·rename_i kd n hi;obtain ⟨⟨h1,h2⟩,h3⟩:=h;obtain ⟨m,rfl⟩:=Int.eq_ofNat_of_zero_le h1;have hk:=zCD h3 m (Int.ofNat_lt.1 h2) rfl;have e:xoS G ze st.fr st.H st.m (.iaddrA x i l sz)=xoS G ze st.fr st.H st.m (.iaddrA x (.c (.int kd (.ofNat m))) l sz):=by
     have hi:i.ev G st.fr=some (.int kd (.ofNat m)):=hi;simp only [xoS];rw [hi];rfl
    exact c.dflt rfl (by rw [e];exact hk)
   ·exact h.elim
 case pick cc x y=>
  simp only [wop] at h;split at h
  ·rename_i cb hcb;split at h
   ·rename_i n;have hget:st.fr.get n=some (.bool cb):=hcb;have hok:(xvOK (.t n)=true/\xvOK x=true)/\xvOK y=true:=by have:=c.ok;simp only [opOK,XO.opnds,zH,List.all_append,List.all_cons,List.all_nil,Bool.and_true,Bool.and_eq_true] at this;exact this
    have c':Ctx P G nt Z0 B0 w0 dl E w a β ⟨st.fr.put n (.bool cb),st.H,st.V,st.m,st.mv⟩ o (.pick (.t n) x y):=⟨c.s.known hget,c.kp,c.df,c.hG,c.hm,c.hc,c.hd,c.ok⟩;rcases zCx h with ⟨rfl,h2⟩ | ⟨rfl,h2⟩
    ·split at h2
     ·rename_i v hv;exact c'.val (by simp only [xoS,zOK hget,hcb,hv]) (zE c.hG c.s.cfr hok.1.2 hv) h2
     ·exact h2.elim
    ·split at h2
     ·rename_i v hv;exact c'.val (by simp only [xoS,zOK hget,hcb,hv]) (zE c.hG c.s.cfr hok.2 hv) h2
     ·exact h2.elim
   ·exact c.dflt rfl h
  ·exact h.elim
 case bin op x y=>
  simp only [wop] at h;split at h
  ·rename_i s1 hx;split at h
   ·split at h
    ·rename_i s2 hy;obtain ⟨h1,h2⟩:=h;have hb:Nat.ble (s1.length+s2.length) zf=true:=by rw [Nat.ble_eq];exact h1
     exact c.val (by simp only [xoS,hx,hy,xbin,hb]) (.str _) h2
    ·exact h.elim
   ·exact c.dflt rfl h
  ·rename_i k1 n1 hx;split at h
   ·split at h
    ·rename_i k2 n2 hy;split at h
     ·rename_i hk;obtain ⟨h1,h2⟩:=h;have hb:(n2==0)=false:=by rw [beq_eq_false_iff_ne];exact h1
      exact c.val (by simp only [xoS,hx,hy,xbin,hk,hb]) (.int _ _) h2
     ·exact h.elim
    ·exact h.elim
   ·split at h
    ·rename_i k2 n2 hy;split at h
     ·rename_i hk;obtain ⟨h1,h2⟩:=h;have hb:(n2==0)=false:=by rw [beq_eq_false_iff_ne];exact h1
      exact c.val (by simp only [xoS,hx,hy,xbin,hk,hb]) (.int _ _) h2
     ·exact h.elim
    ·exact h.elim
   ·split at h
    ·rename_i k2 n2 hy;obtain ⟨h1,h2⟩:=h;have hb:decide (n2<0)=false:=by rw [decide_eq_false_iff_not];omega
     exact c.val (by simp only [xoS,hx,hy,xbin,hb]) (.int _ _) h2
    ·exact h.elim
   ·split at h
    ·rename_i k2 n2 hy;obtain ⟨h1,h2⟩:=h;have hb:decide (n2<0)=false:=by rw [decide_eq_false_iff_not];omega
     exact c.val (by simp only [xoS,hx,hy,xbin,hb]) (.int _ _) h2
    ·exact h.elim
   ·exact c.dflt rfl h
  ·exact h.elim
 case aeq neg kd x y=>
  simp only [wop] at h;split at h
  ·rename_i p hx;split at h
   ·rename_i q hy;split at h
    ·rename_i r hr;obtain ⟨e1,e2,e3⟩:=zLQ hr;have:eqs kd p q=some r:=by simp only [eqs,e2,e3,Nat.beq_refl,e1]
     exact c.val (by simp only [xoS,hx,hy,this]) (by unfold bneg;exact .bool _) h
    ·exact h.elim
   ·exact h.elim
  ·exact h.elim
 case s2b x=>
  simp only [wop] at h;split at h
  ·rename_i s hx;exact zVX c hx h
  ·exact h.elim
 case b2s x=>
  simp only [wop] at h;have hok:xvOK x=true:=by have:=c.ok;simp only [opOK,XO.opnds,zH,Bool.and_true,List.all_cons,List.all_nil] at this;exact this
  split at h
  ·rename_i j hx;split at h
   ·rename_i sz es hV;split at h
    ·rename_i hb;have:=zb hb;subst this;obtain ⟨s,hs,hk⟩:=h;exact zVY c hx hV hs hk
    ·exact h.elim
   ·exact h.elim
  ·rename_i sz es hx;split at h
   ·rename_i hb;have:=zb hb;subst this;obtain ⟨s,hs,hk⟩:=h;exact c.val (by simp only [xoS,hx,zLy (zHt hs),hs]) (.str _) hk
   ·exact h.elim
  ·rename_i hx;exact c.val (by simp only [xoS,hx,content,zA2]) (.str _) h
  ·exact h.elim
 case idxS x i=>
  simp only [wop] at h;split at h
  ·rename_i s hx;split at h
   ·rename_i kd n hi;obtain ⟨b,hb,hk⟩:=h;unfold ixN at hb;split at hb
    ·exact c.val (by simp only [xoS,hx,hi,hb]) (.int _ _) hk
    ·cases hb
   ·exact h.elim
  ·exact h.elim
 case bslice len sz z ps=>
  simp only [wop] at h;split at h
  ·split at h
   ·rename_i cs hf;split at h
    ·rename_i hl;split at h
     ·rename_i es hr;split at h
      ·rename_i hp;exact zSI c hf (zb hl) hr hp h
      ·exact h.elim
     ·exact h.elim
    ·exact h.elim
   ·exact h.elim
  ·exact c.dflt rfl h
 case load x sz ag=>
  simp only [wop] at h;split at h
  ·rename_i p hx;split at h
   ·rename_i j i off hp;split at h
    ·rename_i sz' es hV;obtain ⟨v,hv,hk⟩:=h;exact zVu c hx hp hV hv hk
    ·exact h.elim
   ·exact h.elim
  ·exact c.dflt rfl h
 case store x y sz=>
  simp only [wop] at h;have hok:xvOK x=true/\xvOK y=true:=by have:=c.ok;simp only [opOK,XO.opnds,zH,Bool.and_true,List.all_append,List.all_cons,List.all_nil,Bool.and_eq_true] at this;exact this
  split at h
  ·rename_i p hx;split at h
   ·rename_i j i off hp;split at h
    ·rename_i sz' es hV;split at h
     ·rename_i v hy;split at h
      ·rename_i hb;simp only [Bool.and_eq_true] at hb;obtain ⟨⟨b1,b2⟩,b3⟩:=hb;have b1:=zb b1;have b2:=zb b2;subst b1;subst b2;split at h
       ·rename_i new hn;exact zUc c hx hp hV hy (zBK 12 (zE c.hG c.s.cfr hok.2 hy) b3) hn h
       ·exact h.elim
      ·exact h.elim
     ·exact h.elim
    ·exact h.elim
   ·exact h.elim
  ·exact c.dflt rfl h
 case faddr x off=>
  simp only [wop] at h;split at h
  ·rename_i p hx;split at h
   ·rename_i j i o' hp;split at h
    ·rename_i sz es hV;exact zUb c hx hp hV h
    ·exact h.elim
   ·exact h.elim
  ·exact c.dflt rfl h
 case iaddrS x i sz=>
  simp only [wop] at h;have hok:xvOK x=true/\xvOK i=true:=by have:=c.ok;simp only [opOK,XO.opnds,zH,Bool.and_true,List.all_append,List.all_cons,List.all_nil,Bool.and_eq_true] at this;exact this
  split at h
  ·rename_i sz' es hx;split at h
   ·rename_i hb;split at h
    ·rename_i kd n hi;obtain ⟨v,hv,hk⟩:=h;obtain ⟨e1,e2⟩:=zPU (k:=kd) hv;have hcp:=zE c.hG c.s.cfr hok.1 hx;cases hcp with
     | lst _ _ hes=>exact c.val (by simp only [xoS,hx,hi,hb,e1]) (.eptr _ _ (hes v e2)) hk
    ·exact h.elim
   ·exact h.elim
  ·rename_i j hx;split at h
   ·rename_i sz' es hV;split at h
    ·rename_i hb;have:=zb hb;subst this;split at h
     ·rename_i kd n hi;obtain ⟨⟨h1,h2⟩,h3⟩:=h;exact zSH c hx hV hi h1 h2 h3
     ·exact h.elim
    ·exact h.elim
   ·exact h.elim
  ·split at h
   ·rename_i kd n hi;obtain ⟨⟨h1,h2⟩,h3⟩:=h;obtain ⟨m,rfl⟩:=Int.eq_ofNat_of_zero_le h1;have hk:=zCD h3 m (Int.ofNat_lt.1 h2) rfl;have e:xoS G ze st.fr st.H st.m (.iaddrS x i sz)=xoS G ze st.fr st.H st.m (.iaddrS x (.c (.int kd (.ofNat m))) sz):=by
     have hi:i.ev G st.fr=some (.int kd (.ofNat m)):=hi;simp only [xoS];rw [hi];rfl
    exact c.dflt rfl (by rw [e];exact hk)
   ·exact h.elim
  ·exact h.elim
 case slcS x lo hi=>
  simp only [wop] at h;split at h
  ·rename_i s hx;split at h
   ·rename_i lo' hlo;split at h
    ·rename_i hi' hhi;obtain ⟨l,r,hk,e1,e2,_,_⟩:=zGs h;exact c.val (by simp only [xoS,hx,hlo,hhi,e1,e2]) (.str _) hk
    ·exact h.elim
   ·exact h.elim
  ·exact h.elim
 case slcL x lo hi mx sz=>
  simp only [wop] at h;have hok:=c.ok;simp only [opOK,Bool.and_eq_true] at hok;split at h
  ·rename_i sz' es hx;split at h
   ·rename_i hb;split at h
    ·split at h
     ·rename_i lo' hlo;split at h
      ·rename_i hi' hhi;obtain ⟨l,r,hk,e1,e2,_,_⟩:=zGs h;have hxo:xvOK x=true:=by
        have:=List.all_eq_true.1 hok.1 x (by simp [XO.opnds])
        exact this
       have hcp:=zE c.hG c.s.cfr hxo hx;cases hcp with
       | lst _ _ hes=>exact c.val (by simp only [xoS,hx,hlo,hhi,zOJ,xslice,hb,e1,e2]) (.lst _ _ fun e he=>hes e (List.mem_of_mem_take (List.mem_of_mem_drop he))) hk
      ·exact h.elim
     ·exact h.elim
    ·exact h.elim
   ·exact h.elim
  ·rename_i hx;unfold WXd at h;split at h
   ·rename_i v H' m' hxo;have:v=.nilslice/\H'=st.H/\m'=st.m:=by
     simp only [xoS,hx] at hxo;split at hxo
     ·rename_i v0 lo0 hi0 mx0 e0 _ _ _;cases e0;simp only [xslice] at hxo;split at hxo
      ·rename_i v1 hv1;cases hxo;split at hv1
       ·split at hv1
        ·split at hv1
         ·cases hv1;exact ⟨rfl,rfl,rfl⟩
         ·cases hv1
        ·cases hv1
       ·cases hv1
      ·cases hxo
     ·cases hxo
    obtain ⟨rfl,rfl,rfl⟩:=this;exact c.val hxo .nilslice h
   ·exact h.elim
  ·exact h.elim
 case lenL x=>
  simp only [wop] at h;split at h
  ·rename_i j hx;split at h
   ·rename_i sz es hV;exact zVt c hx hV h
   ·exact h.elim
  ·exact c.dflt rfl h
 case append x y sz bytes=>
  simp only [wop] at h;split at h
  ·exact h.elim
  ·rename_i hcl;split at h
   ·rename_i v hx;split at h
    ·rename_i u hy;split at h
     ·rename_i ys he;split at h
      ·rename_i hpp;split at h
       ·obtain ⟨h1,h2⟩:=h;exact zKw c hcl c.s.hf hx hy hy he hpp h1 (fun j vi h=>h) h2
       ·rename_i j;split at h
        ·rename_i sz' es hV;split at h
         ·rename_i hb;have:=zb hb;subst this;obtain ⟨⟨h1,h2⟩,h3⟩:=h;exact zOG c hcl hx hV hy he hpp h1 h2 h3
         ·exact h.elim
        ·exact h.elim
       ·exact h.elim
      ·exact h.elim
     ·exact h.elim
    ·exact h.elim
   ·exact h.elim
 case mkslice l cx sz bytes z=>
  simp only [wop] at h;split at h
  ·rename_i k1 n hl;split at h
   ·rename_i k2 m hcx;split at h
    ·rename_i e hr hz;obtain ⟨⟨h1,h2,h3,h4⟩,h5⟩:=h;exact zRw c hl hcx hr (zb hz) h1 h2 h3 h4 h5
    ·exact h.elim
   ·exact h.elim
  ·exact h.elim
 case mkmap=>exact zUd c h
 case lookup ag kd m x z ok=>
  simp only [wop] at h;split at h
  ·rename_i j hm;split at h
   ·rename_i es hV;split at h
    ·rename_i kv hx;split at h
     ·rename_i hko;obtain ⟨v,hv,hk⟩:=h;exact zSJ c hm hV hx hko hv hk
     ·exact h.elim
    ·exact h.elim
   ·exact h.elim
  ·exact h.elim
 case mupd ag kd m x y=>
  simp only [wop] at h;split at h
  ·rename_i j hm;split at h
   ·rename_i es hV;split at h
    ·rename_i kv hx;split at h
     ·rename_i u hy;split at h
      ·rename_i hb;simp only [Bool.and_eq_true] at hb;obtain ⟨es',hp,hk⟩:=h;exact zVv c hm hV hx hy hb.1.1 hb.1.2 hb.2 hp hk
      ·exact h.elim
     ·exact h.elim
    ·exact h.elim
   ·exact h.elim
  ·exact h.elim
 case call f xs=>
  simp only [wop] at h;split at h
  ·rename_i vs hv;exact zVw htb c hv h
  ·exact h.elim
 case callv fx xs=>
  simp only [wop] at h;split at h
  ·rename_i f first caps hf;split at h
   ·rename_i vs hv;exact zUe htb c hf hv h
   ·exact h.elim
  ·exact h.elim
end
end Go.Sy
namespace Go.Sy
open Classical in
noncomputable def zH9:TblS->Nat->List AV->Option AV
 | [],_,_=>none
 | s::r,f,args=>match Nat.beq f s.1 with
  | true=>if s.2.1 args then s.2.2 args else none
  | false=>zH9 r f args
theorem zLS:∀{tb:TblS} {f:Nat} {args:List AV} {k:AV->Prop},zEB tb f args k->∃v,zH9 tb f args=some v/\k v
 | [],f,args,k,h=>h.elim
 | s::r,f,args,k,h=>by
  simp only [zEB] at h;cases hb:Nat.beq f s.1 with
  | true=>
   simp only [hb] at h;obtain ⟨h1,h2⟩:=h;split at h2
   ·rename_i v hv;exact ⟨v,by simp only [zH9,hb,h1,if_true];exact hv,h2⟩
   ·exact h2.elim
  | false=>
   simp only [hb] at h;obtain ⟨v,h1,h2⟩:=zLS h;exact ⟨v,by simp only [zH9,hb];exact h1,h2⟩
theorem zHv {P:Program} {G:Cx}:∀{tb:TblS} {f:Nat} {args:List AV} {v:AV},TbW P G tb->zH9 tb f args=some v->Enters P f/\PP v/\∀H nx,FnT P G f args H nx v H nx
 | [],f,args,v,_,h=>by cases h
 | s::r,f,args,v,htb,h=>by
  simp only [zH9] at h;split at h
  ·rename_i e;split at h
   ·rename_i hp;have:=htb s (.head _) args v hp h;rw [zb e];exact this
   ·cases h
  ·exact zHv (fun s hs=>htb s (.tail _ hs)) h
open Classical in
noncomputable def zEF (mv:Nat) (tb:TblS):Call:=fun f args H nx=>
 match args.any (hasH 8) with
 | false=>match zH9 tb f args with
  | some v=>some (v,H,nx)
  | none=>none
 | true=>if (∀a∈args,CP mv nx a)/\HCP mv nx H/\(∀p∈H,p.1<nx) then
   match zp (frz H [] 8) args with
   | some args'=>match zH9 tb f args' with
    | some v=>match zAM 8 v with
     | true=>some (v,H,nx)
     | false=>none
    | none=>none
   | none=>none
  else none
theorem zQz {mv:Nat} {tb:TblS}:Calm (zEF mv tb):=by
 intro f args H nx v H' nx' h;simp only [zEF] at h
 repeat' split at h
 all_goals first
  | (cases h;done)
  | (cases h;exact ⟨rfl,rfl⟩)
theorem zSM {P:Program} {G:Cx} {mv:Nat} {tb:TblS} (htb:TbW P G tb) (hG:GPP G):zD3 P G (zEF mv tb):=by
 intro f args H nx v H' nx' h;simp only [zEF] at h;split at h
 ·split at h
  ·rename_i u hu;cases h;obtain ⟨h1,h2,h3⟩:=zHv htb hu;exact ⟨h1,Nat.le_refl _,h3 _ _⟩
  ·cases h
 ·split at h
  rotate_left
  ·cases h
  rename_i hc;obtain ⟨hca,hcH,hlt⟩:=hc;split at h
  rotate_left
  ·cases h
  rename_i args' hargs;split at h
  rotate_left
  ·cases h
  rename_i u hu;split at h
  rotate_left
  ·cases h
  rename_i hs;cases h;obtain ⟨h1,h2,h3⟩:=zHv htb hu;refine ⟨h1,Nat.le_refl _,fun E w cargs hr hva hg hfr=>?_⟩
  have hcv:∀{x:AV} {cx:Value},CP mv nx x->VR E w x cx->VR ⟨E.ρ,fun h=>E.D h/\h<nx,E.Z,E.σ⟩ w x cx:=fun hc hv=>
   VR.cpx (E:=E) (E':=⟨E.ρ,fun h=>E.D h/\h<nx,E.Z,E.σ⟩) (w:=w) (w':=w) (fun h h1 h2=>⟨⟨h2,h1⟩,rfl⟩) (fun b hb=>⟨hb,rfl⟩) (.refl w) (fun i _=>rfl) hv hc
  have s:SR G 0 ⟨E.ρ,fun h=>E.D h/\h<nx,E.Z,E.σ⟩ w { tmps:=#[],defers:=[] } (fun _=>none) ⟨[],H,[],nx,mv⟩:=by
   refine ⟨⟨hr.nodup,fun p hp=>⟨hr.dom p hp,hlt p hp⟩,hr.inj,fun p hp=>?_,hr.nz,hr.zlt⟩,⟨rfl,fun t v h=>(by cases h)⟩,fun g u h=>⟨hcv (hG g u h).cp (hg g u h).1,(hg g u h).2⟩,fun h hh=>hh.2,fun t v h=>(by cases h),hcH,fun j vi h=>(by cases h),fun j j2 i off h=>(by cases h),fun j vi b h=>(by cases h),fun j j' vi vi' b h=>(by cases h)⟩
   obtain ⟨str,cs,e,hcs⟩:=hcH p hp;have:=hr.obj p hp;rw [e] at this ⊢;exact OR.cpx rfl (fun hc hv=>hcv hc hv) hcs this
  obtain ⟨m1,m2⟩:=zAj hargs;have hva':VRs (frzE ⟨E.ρ,fun h=>E.D h/\h<nx,E.Z,E.σ⟩ (fun _=>none) H []) w args' cargs.toList:=by
   refine ⟨m1.trans hva.1,fun i y u hy hu=>?_⟩
   have hi:i<args.length:=by have:=(List.getElem?_eq_some_iff.1 hy).1;omega
   have hx:=List.getElem?_eq_getElem hi;have hcp:=hca _ (List.mem_of_getElem? hx);exact zD8 s 8 hcp (hcv hcp (hva.2 i _ u hx hu)) (m2 i _ y hx hy)
  have hzlt:∀b,(frzE ⟨E.ρ,fun h=>E.D h/\h<nx,E.Z,E.σ⟩ (fun _=>none) H []).Z b->b<w.heap.size:=by
   rintro b (hb | ⟨p,hp,rfl⟩ | ⟨j,vi,q1,_⟩)
   ·exact hr.zlt b hb
   ·exact hr.lt hp
   ·cases q1
  have hr0:HR (frzE ⟨E.ρ,fun h=>E.D h/\h<nx,E.Z,E.σ⟩ (fun _=>none) H []) [] w:=⟨.nil,fun p hp=>by simp at hp,fun p hp=>by simp at hp,fun p hp=>by simp at hp,fun p hp=>by simp at hp,hzlt⟩
  have hg0:GR G (frzE ⟨E.ρ,fun h=>E.D h/\h<nx,E.Z,E.σ⟩ (fun _=>none) H []) w:=fun g u h=>⟨VR.pp (E:=E) (E':=frzE ⟨E.ρ,fun h=>E.D h/\h<nx,E.Z,E.σ⟩ (fun _=>none) H []) (w:=w) (w':=w) (fun b hb=>⟨.inl hb,rfl⟩) (hg g u h).1 (hG g u h),(hg g u h).2⟩
  refine (h3 [] 0 _ w cargs hr0 hva' hg0 fun h _ _ hD=>hD).mono fun e w' h=>?_
  obtain ⟨cv,E',rfl,k1,k2,k3⟩:=h;have hold:∀x,x<w.heap.size->w'.heap[x]? = w.heap[x]?:=fun x hx=>k2.old x hx fun p hp=>by simp at hp
  have hm:∀{u cu},VR E w u cu->VR E w' u cu:=fun hu=>VR.mono (E:=E) (E':=E) (fun _ h=>⟨h,rfl⟩) (fun b hb=>⟨hb,hold b (hr.zlt b hb)⟩) k2.shapes hu
  exact ⟨cv,E,rfl,⟨hr.nodup,hr.dom,hr.inj,fun p hp=>(hr.obj p hp).mono (hold _ (hr.lt hp)) hm,hr.nz,fun b hb=>Nat.lt_of_lt_of_le (hr.zlt b hb) k2.size⟩,
   ⟨Nat.le_refl _,fun _ _=>rfl,fun h=>⟨.inl,fun h=>h.elim id fun ⟨x,y⟩=>by omega⟩,fun _ h=>h,fun _ h=>.inl h,fun p hp=>.inl ⟨p,hp,rfl⟩,k2.tape,k2.os,k2.output,k2.size,fun x hx _=>hold x hx,k2.shapes,rfl⟩,zNx 8 hs k3⟩
theorem put_same:∀{fr:Fr} {n:Nat} {v:AV},fr.get n=some v->fr.put n v=fr
 | [],n,v,h=>by cases h
 | (k,u)::r,n,v,h=>by
  simp only [Fr.get] at h;simp only [Fr.put];cases e:Nat.beq k n with
  | true=>
   rw [e] at h;cases h;simp only;rw [zb e]
  | false=>
   rw [e] at h;simp only;rw [put_same h]
theorem zOL {G:Cx} {call:Call} {fr:Fr} {H:Heap} {m:Nat} {o:XO} {r:Out} (h:xoS G ze fr H m o=some r):xoS G call fr H m o=some r:=by
 cases o <;> first | exact h | skip
 ·simp only [xoS] at h ⊢;split at h
  ·cases h
  ·cases h
 ·simp only [xoS] at h ⊢;split at h
  ·unfold applyf at h;split at h
   ·cases h
   ·cases h
  ·cases h
 ·simp only [xoS] at h ⊢;split at h
  ·split at h
   ·cases h
   ·cases h
  ·cases h
theorem zMF {G:Cx} {fr:Fr} {H:Heap} {m:Nat} {o:XO} (hd:zIU o=true) {v:AV} {H':Heap} {m':Nat} (hlt:∀p∈H,p.1<m) (h:xoS G ze fr H m o=some (v,H',m')):(∀p∈H',p.1<m')/\m<=m':=by
 have hle:=zQr (call:=ze) (fun _ _ _ _ _ _ _ h=>by cases h) h
 refine ⟨?_,hle⟩
 by_cases h0:zI o=0
 ·have h1:=zM3 (G:=G) (call:=ze) (fr:=fr) (H:=H) (nx:=m) h0;rw [h] at h1;split at h1
  ·simp only [Option.some.injEq,Prod.mk.injEq] at h1;obtain ⟨_,rfl,_⟩:=h1;exact fun p hp=>Nat.lt_of_lt_of_le (hlt p hp) hle
  ·cases h1
 ·by_cases h1:zI o=1
  ·obtain ⟨rfl,rfl⟩:=zPQ h1 h;exact hlt
  ·by_cases h2:zI o=2
   ·obtain ⟨ob,_,rfl,rfl⟩:=zOz h2 h;intro p hp;rcases List.mem_cons.1 hp with rfl | hp
    ·exact Nat.lt_succ_self _
    ·exact Nat.lt_succ_of_lt (hlt p hp)
   ·cases o <;> first | (cases hd;done) | (exact absurd rfl h0) | (exact absurd rfl h1) | (exact absurd rfl h2) | skip
    simp only [xoS] at h
    repeat' split at h
    all_goals first | (cases h;done) | skip
    cases h;intro p hp;rcases zCc hp with rfl | hp
    ·have key:∀{h:Nat} {o:HO},H.get h=some o->h<m:=fun hg=>hlt _ (Heap.mem_of_get hg)
     exact key (by assumption)
    ·exact hlt p hp
section
variable {P:Program} {G:Cx} {tb:TblS} {st:Sta} {k:AV->Sta->Prop}
structure DXo (G:Cx) (tb:TblS) (st:Sta) (xop:XO) (k:AV->Sta->Prop) (v:AV) (H':Heap) (m':Nat):Prop where
 x:xoS G (zEF st.mv tb) st.fr st.H st.m xop=some (v,H',m')
 cv:CP st.mv m' v
 cH:HCP st.mv m' H'
 lt:∀p∈H',p.1<m'
 le:st.m<=m'
 k:k v ⟨st.fr,H',st.V,m',st.mv⟩
theorem zUf (htb:TbW P G tb) (hG:GPP G) {xop:XO} {ks:List K} (hok:opOK xop=true) (hcf:FrCP st.mv st.m st.fr) (hcH:HCP st.mv st.m st.H) (hlt:∀p∈st.H,p.1<st.m) (h:wopD G tb st xop ks k):∃v H' m',DXo G tb st xop k v H' m':=by
 have dfl:∀{k':AV->Sta->Prop},(∀v st',k' v st'->k v ⟨st'.fr,st'.H,st.V,st'.m,st'.mv⟩)->zIU xop=true->WXd ⟨st.fr,st.H,[],st.m,st.mv⟩ (xoS G ze st.fr st.H st.m xop) k'->∃v H' m',DXo G tb st xop k v H' m':=by
  intro k' hk' hdf h;unfold WXd at h;split at h
  ·rename_i v H' m' hx;obtain ⟨h1,h2⟩:=zKu hdf hok hG hcf hcH hx;obtain ⟨h3,h4⟩:=zMF hdf hlt hx;exact ⟨v,H',m',zOL hx,h1,h2,h3,h4,hk' _ _ h⟩
  ·exact h.elim
 have val:∀{v:AV},xoS G ze st.fr st.H st.m xop=some (v,st.H,st.m)->CP st.mv st.m v->k v st->∃v H' m',DXo G tb st xop k v H' m':=fun {v} hx hcv hk=>⟨v,st.H,st.m,zOL hx,hcv,hcH,hlt,Nat.le_refl _,hk⟩
 have calls:∀{f:Nat} {vs:List AV},xoS G (zEF st.mv tb) st.fr st.H st.m xop=zEF st.mv tb f vs st.H st.m->(∀a∈vs,CP st.mv st.m a)->wcall tb f vs ⟨st.fr,st.H,[],st.m,st.mv⟩ (fun v st'=>k v ⟨st'.fr,st'.H,st.V,st'.m,st'.mv⟩)->∃v H' m',DXo G tb st xop k v H' m':=by
  intro f vs hx hcp h;unfold wcall at h;split at h
  ·rename_i hh;obtain ⟨v,e,hk⟩:=zLS h;obtain ⟨_,h2,_⟩:=zHv htb e;exact ⟨v,st.H,st.m,by rw [hx];simp only [zEF,hh,e],h2.cp,hcH,hlt,Nat.le_refl _,hk⟩
  ·rename_i hh;split at h
   ·rename_i vs' hvs;obtain ⟨v,e,hk⟩:=zLS h;obtain ⟨_,h2,_⟩:=zHv htb e;split at hk
    ·rename_i hs;have hvs:zp (frz st.H [] 8) vs=some vs':=hvs;refine ⟨v,st.H,st.m,?_,h2.cp,hcH,hlt,Nat.le_refl _,hk⟩
     rw [hx];simp only [zEF,hh];rw [if_pos ⟨hcp,hcH,hlt⟩];simp only [hvs,e,hs]
    ·exact hk.elim
   ·exact h.elim
 cases xop <;> try (exact h.elim)
 all_goals try (exact dfl (fun v st' h=>h) rfl h)
 case idxA x i l sz ag=>
  simp only [wopD,wop] at h;split at h
  ·exact dfl (fun v st' h=>h) rfl h
  ·split at h
   ·rename_i kd n hi;obtain ⟨⟨h1,h2⟩,h3⟩:=h;obtain ⟨m,rfl⟩:=Int.eq_ofNat_of_zero_le h1;have hk:=zCD h3 m (Int.ofNat_lt.1 h2) rfl;have e:xoS G ze st.fr st.H st.m (.idxA x i l sz ag)=xoS G ze st.fr st.H st.m (.idxA x (.c (.int kd (.ofNat m))) l sz ag):=by
     have hi:i.ev G st.fr=some (.int kd (.ofNat m)):=hi;simp only [xoS];rw [hi];rfl
    exact dfl (fun v st' h=>h) rfl (by rw [e];exact hk)
   ·exact h.elim
 case iaddrA x i l sz=>
  simp only [wopD,wop] at h;split at h
  ·exact dfl (fun v st' h=>h) rfl h
  ·split at h
   ·rename_i kd n hi;obtain ⟨⟨h1,h2⟩,h3⟩:=h;obtain ⟨m,rfl⟩:=Int.eq_ofNat_of_zero_le h1;have hk:=zCD h3 m (Int.ofNat_lt.1 h2) rfl;have e:xoS G ze st.fr st.H st.m (.iaddrA x i l sz)=xoS G ze st.fr st.H st.m (.iaddrA x (.c (.int kd (.ofNat m))) l sz):=by
     have hi:i.ev G st.fr=some (.int kd (.ofNat m)):=hi;simp only [xoS];rw [hi];rfl
    exact dfl (fun v st' h=>h) rfl (by rw [e];exact hk)
   ·exact h.elim
 case pick cc x y=>
  simp only [wopD,wop] at h;have hok':(xvOK cc=true/\xvOK x=true)/\xvOK y=true:=by simp only [opOK,XO.opnds,zH,List.all_append,List.all_cons,List.all_nil,Bool.and_true,Bool.and_eq_true] at hok;exact hok
  split at h
  ·rename_i cb hcb;split at h
   ·rename_i n;have hget:st.fr.get n=some (.bool cb):=hcb;rcases zCx h with ⟨rfl,h2⟩ | ⟨rfl,h2⟩
    ·split at h2
     ·rename_i v hv;rw [put_same hget] at h2;exact val (by simp only [xoS,hcb,hv]) (zE hG hcf hok'.1.2 hv) h2
     ·exact h2.elim
    ·split at h2
     ·rename_i v hv;rw [put_same hget] at h2;exact val (by simp only [xoS,hcb,hv]) (zE hG hcf hok'.2 hv) h2
     ·exact h2.elim
   ·exact dfl (fun v st' h=>h) rfl h
  ·exact h.elim
 case bin op x y=>
  simp only [wopD,wop] at h;split at h
  ·rename_i s1 hx;split at h
   ·split at h
    ·rename_i s2 hy;obtain ⟨h1,h2⟩:=h;have hb:Nat.ble (s1.length+s2.length) zf=true:=by rw [Nat.ble_eq];exact h1
     exact val (by simp only [xoS,hx,hy,xbin,hb]) (.str _) h2
    ·exact h.elim
   ·exact dfl (fun v st' h=>h) rfl h
  ·rename_i k1 n1 hx;split at h
   ·split at h
    ·rename_i k2 n2 hy;split at h
     ·rename_i hk;obtain ⟨h1,h2⟩:=h;have hb:(n2==0)=false:=by rw [beq_eq_false_iff_ne];exact h1
      exact val (by simp only [xoS,hx,hy,xbin,hk,hb]) (.int _ _) h2
     ·exact h.elim
    ·exact h.elim
   ·split at h
    ·rename_i k2 n2 hy;split at h
     ·rename_i hk;obtain ⟨h1,h2⟩:=h;have hb:(n2==0)=false:=by rw [beq_eq_false_iff_ne];exact h1
      exact val (by simp only [xoS,hx,hy,xbin,hk,hb]) (.int _ _) h2
     ·exact h.elim
    ·exact h.elim
   ·split at h
    ·rename_i k2 n2 hy;obtain ⟨h1,h2⟩:=h;have hb:decide (n2<0)=false:=by rw [decide_eq_false_iff_not];omega
     exact val (by simp only [xoS,hx,hy,xbin,hb]) (.int _ _) h2
    ·exact h.elim
   ·split at h
    ·rename_i k2 n2 hy;obtain ⟨h1,h2⟩:=h;have hb:decide (n2<0)=false:=by rw [decide_eq_false_iff_not];omega
     exact val (by simp only [xoS,hx,hy,xbin,hb]) (.int _ _) h2
    ·exact h.elim
   ·exact dfl (fun v st' h=>h) rfl h
  ·exact h.elim
 case aeq neg kd x y=>
  simp only [wopD,wop] at h;split at h
  ·rename_i p hx;split at h
   ·rename_i q hy;split at h
    ·rename_i r hr;obtain ⟨e1,e2,e3⟩:=zLQ hr;have:eqs kd p q=some r:=by simp only [eqs,e2,e3,Nat.beq_refl,e1]
     exact val (by simp only [xoS,hx,hy,this]) (by unfold bneg;exact .bool _) h
    ·exact h.elim
   ·exact h.elim
  ·exact h.elim
 case idxS x i=>
  simp only [wopD,wop] at h;split at h
  ·rename_i s hx;split at h
   ·rename_i kd n hi;obtain ⟨b,hb,hk⟩:=h;unfold ixN at hb;split at hb
    ·exact val (by simp only [xoS,hx,hi,hb]) (.int _ _) hk
    ·cases hb
   ·exact h.elim
  ·exact h.elim
 case load x sz ag=>
  simp only [wopD,wop] at h;split at h
  ·exact h.elim
  ·exact dfl (fun v st' h=>h) rfl h
 case store x y sz=>
  simp only [wopD,wop] at h;split at h
  ·exact h.elim
  ·exact dfl (fun v st' h=>h) rfl h
 case faddr x off=>
  simp only [wopD,wop] at h;split at h
  ·exact h.elim
  ·exact dfl (fun v st' h=>h) rfl h
 case iaddrS x i sz=>
  simp only [wopD,wop] at h;have hok':xvOK x=true/\xvOK i=true:=by simp only [opOK,XO.opnds,zH,Bool.and_true,List.all_append,List.all_cons,List.all_nil,Bool.and_eq_true] at hok;exact hok
  split at h
  ·rename_i sz' es hx;split at h
   ·rename_i hb;split at h
    ·rename_i kd n hi;obtain ⟨v,hv,hk⟩:=h;obtain ⟨e1,e2⟩:=zPU (k:=kd) hv;have hcp:=zE hG hcf hok'.1 hx;cases hcp with
     | lst _ _ hes=>exact val (by simp only [xoS,hx,hi,hb,e1]) (.eptr _ _ (hes v e2)) hk
    ·exact h.elim
   ·exact h.elim
  ·exact h.elim
  ·split at h
   ·rename_i kd n hi;obtain ⟨⟨h1,h2⟩,h3⟩:=h;obtain ⟨m,rfl⟩:=Int.eq_ofNat_of_zero_le h1;have hk:=zCD h3 m (Int.ofNat_lt.1 h2) rfl;have e:xoS G ze st.fr st.H st.m (.iaddrS x i sz)=xoS G ze st.fr st.H st.m (.iaddrS x (.c (.int kd (.ofNat m))) sz):=by
     have hi:i.ev G st.fr=some (.int kd (.ofNat m)):=hi;simp only [xoS];rw [hi];rfl
    exact dfl (fun v st' h=>h) rfl (by rw [e];exact hk)
   ·exact h.elim
  ·exact h.elim
 case slcS x lo hi=>
  simp only [wopD,wop] at h;split at h
  ·rename_i s hx;split at h
   ·rename_i lo' hlo;split at h
    ·rename_i hi' hhi;obtain ⟨l,r,hk,e1,e2,_,_⟩:=zGs h;exact val (by simp only [xoS,hx,hlo,hhi,e1,e2]) (.str _) hk
    ·exact h.elim
   ·exact h.elim
  ·exact h.elim
 case slcL x lo hi mx sz=>
  simp only [wopD,wop] at h;simp only [opOK,Bool.and_eq_true] at hok;split at h
  ·rename_i sz' es hx;split at h
   ·rename_i hb;split at h
    ·split at h
     ·rename_i lo' hlo;split at h
      ·rename_i hi' hhi;obtain ⟨l,r,hk,e1,e2,_,_⟩:=zGs h;have hxo:xvOK x=true:=List.all_eq_true.1 hok.1 x (by simp [XO.opnds])
       have hcp:=zE hG hcf hxo hx;cases hcp with
       | lst _ _ hes=>exact val (by simp only [xoS,hx,hlo,hhi,zOJ,xslice,hb,e1,e2]) (.lst _ _ fun e he=>hes e (List.mem_of_mem_take (List.mem_of_mem_drop he))) hk
      ·exact h.elim
     ·exact h.elim
    ·exact h.elim
   ·exact h.elim
  ·rename_i hx;unfold WXd at h;split at h
   ·rename_i v H' m' hxo;have:v=.nilslice/\H'=st.H/\m'=st.m:=by
     simp only [xoS,hx] at hxo;split at hxo
     ·rename_i v0 lo0 hi0 mx0 e0 _ _ _;cases e0;simp only [xslice] at hxo;split at hxo
      ·rename_i v1 hv1;cases hxo;split at hv1
       ·split at hv1
        ·split at hv1
         ·cases hv1;exact ⟨rfl,rfl,rfl⟩
         ·cases hv1
        ·cases hv1
       ·cases hv1
      ·cases hxo
     ·cases hxo
    obtain ⟨rfl,rfl,rfl⟩:=this;exact val hxo .nilslice h
   ·exact h.elim
  ·exact h.elim
 case lenL x=>
  simp only [wopD,wop] at h;split at h
  ·exact h.elim
  ·exact dfl (fun v st' h=>h) rfl h
 case call f xs=>
  simp only [wopD,wop] at h;have hok':xs.all xvOK=true:=by simp only [opOK,XO.opnds,zH,Bool.and_true] at hok;exact hok
  split at h
  ·rename_i vs hv;exact calls (by simp only [xoS,hv]) (zD6 hG hcf hok' hv) h
  ·exact h.elim
 case callv fx xs=>
  simp only [wopD,wop] at h;have hok':xvOK fx=true/\xs.all xvOK=true:=by simp only [opOK,XO.opnds,zH,List.all_append,List.all_cons,List.all_nil,Bool.and_true,Bool.and_eq_true] at hok;exact hok
  split at h
  ·rename_i f first caps hf;split at h
   ·rename_i vs hv;refine calls (by simp only [xoS,hf,hv,applyf]) (fun a ha=>?_) h
    have hcp:=zE hG hcf hok'.1 hf;cases hcp with
    | func _ _ _ h1 h2=>
     rcases List.mem_append.1 ha with ha | ha
     ·rcases List.mem_append.1 ha with ha | ha
      ·exact h1 a ha
      ·exact zD6 hG hcf hok'.2 hv a ha
     ·exact h2 a ha
   ·exact h.elim
  ·exact h.elim
structure KD (K:Sta->Prop) (V:Vecs) (mv:Nat) (fr:Fr) (H:Heap) (nx:Nat):Prop where
 k:K ⟨fr,H,V,nx,mv⟩
 cf:FrCP mv nx fr
 cH:HCP mv nx H
theorem zLT (htb:TbW P G tb) (hG:GPP G) {V:Vecs} {mv:Nat} {K:Sta->Prop}:∀(ops:List TOp) {fr:Fr} {H:Heap} {m:Nat},(∀t∈ops,opOK t.o.op=true)->FrCP mv m fr->HCP mv m H->(∀p∈H,p.1<m)->zBd G tb ops K ⟨fr,H,V,m,mv⟩->WN G (zEF mv tb) (ops.map TOp.o) (KD K V mv) fr H m
 | [],fr,H,m,_,hcf,hcH,_,h=>⟨h,hcf,hcH⟩
 | o::r,fr,H,m,hok,hcf,hcH,hlt,h=>by
  have hok':∀t∈r,opOK t.o.op=true:=fun t ht=>hok t (.tail _ ht)
  have step:wopD G tb ⟨fr,H,V,m,mv⟩ o.o.op o.ks (fun v st=>zBd G tb r K (st.put o.o.dst v))->∃v H' nx',xoS G (zEF mv tb) fr H m o.o.op=some (v,H',nx')/\WN G (zEF mv tb) (r.map TOp.o) (KD K V mv) (putd fr o.o.dst v) H' nx':=by
   intro h;obtain ⟨v,H',m',d⟩:=zUf (st:=⟨fr,H,V,m,mv⟩) htb hG (hok o (.head _)) hcf hcH hlt h;exact ⟨v,H',m',d.x,zLT htb hG r hok' ((hcf.mono (Nat.le_refl _) d.le).putd d.cv) d.cH d.lt d.k⟩
  have skip:zBd G tb r K ⟨putd fr o.o.dst (.tup []),H,V,m,mv⟩->WN G (zEF mv tb) (r.map TOp.o) (KD K V mv) (putd fr o.o.dst (.tup [])) H m:=fun h=>
   zLT htb hG r hok' (hcf.putd (.tup _ fun e he=>by cases he)) hcH hlt h
  simp only [zBd] at h;simp only [List.map_cons,WN];cases hg:o.o.guard with
  | none=>
   rw [hg] at h;exact step h
  | some tb'=>
   obtain ⟨t,b⟩:=tb';rw [hg] at h;simp only at h ⊢;split at h
   ·rename_i c hc;rw [hc];unfold brT at h;rcases zCx h with ⟨rfl,h2⟩ | ⟨rfl,h2⟩
    ·have h2:(match true==b with
      | true=>wopD G tb ⟨fr.put t (.bool true),H,V,m,mv⟩ o.o.op o.ks fun v st=>zBd G tb r K (st.put o.o.dst v)
      | false=>zBd G tb r K (Sta.put ⟨fr.put t (.bool true),H,V,m,mv⟩ o.o.dst (.tup []))):=h2
     rw [put_same hc] at h2;cases b with
     | true=>exact ⟨fun _=>step h2,fun e=>(by cases e)⟩
     | false=>exact ⟨fun e=>(by cases e),fun _=>skip h2⟩
    ·have h2:(match false==b with
      | true=>wopD G tb ⟨fr.put t (.bool false),H,V,m,mv⟩ o.o.op o.ks fun v st=>zBd G tb r K (st.put o.o.dst v)
      | false=>zBd G tb r K (Sta.put ⟨fr.put t (.bool false),H,V,m,mv⟩ o.o.dst (.tup []))):=h2
     rw [put_same hc] at h2;cases b with
     | true=>exact ⟨fun e=>(by cases e),fun _=>skip h2⟩
     | false=>exact ⟨fun _=>step h2,fun e=>(by cases e)⟩
   ·rename_i hc;rw [hc];exact skip h
   ·exact h.elim
end
end Go.Sy
namespace Go.Sy
section
variable {P:Program} {G:Cx} {nt:Nat} {E:Env} {w:World} {a:Act} {β:Nat->Option Nat} {st:Sta}
 {Z0 B0:Nat->Prop} {w0:World} {dl:List Deferred} {tb:TblS}
theorem zDe {h:Nat}:∀{l:List Nat} {i k:Nat},posN h i l=some k->∃j,k=i+j/\l[j]? = some h
 | [],i,k,e=>by cases e
 | a::r,i,k,e=>by
  simp only [posN] at e;split at e
  ·rename_i hb;cases e;exact ⟨0,rfl,by rw [zb hb];rfl⟩
  ·obtain ⟨j,h1,h2⟩:=zDe e;exact ⟨j+1,by omega,by simpa using h2⟩
theorem zLa {n:Nat}:∀{l:List Nat},inN n l=false->n ∉ l
 | [],_,h=>by cases h
 | a::r,e,h=>by
  simp only [inN] at e;split at e
  ·cases e
  ·rename_i hb;rcases List.mem_cons.1 h with rfl | h
   ·rw [Nat.beq_refl] at hb;cases hb
   ·exact zLa e h
theorem zID:∀{l:List Nat},zHq l=true->l.Nodup
 | [],_=>.nil
 | a::r,h=>by
  simp only [zHq,Bool.and_eq_true,Bool.not_eq_true'] at h;exact List.nodup_cons.2 ⟨zLa h.1,zID h.2⟩
def zP (E:Env) (hm sm:List Nat):Env:=⟨fun i=>E.ρ (hm.getD i 0),fun i=>∃h,hm[i]? = some h/\E.D h,E.Z,fun i=>E.σ (sm.getD i 0)⟩
theorem zKz {hm sm:List Nat} {n k:Nat}:∀(d:Nat) {v v':AV} {cv:Value},CP n k v->VR E w v cv->rnV hm sm d v=some v'->VR (zP E hm sm) w v' cv/\CP sm.length hm.length v':=by
 intro d
 induction d with
 | zero=>intro v v' cv _ _ h;cases h
 | succ d ih=>
  intro v v' cv hcp hv h;have al:∀{xs ys:List AV} {vs:List Value},(∀e∈xs,CP n k e)->VRs E w xs vs->zp (rnV hm sm d) xs=some ys->VRs (zP E hm sm) w ys vs/\∀e∈ys,CP sm.length hm.length e:=fun {xs ys vs} hc hvs hmm=>by
   obtain ⟨m1,m2⟩:=zAj hmm;have key:∀(i:Nat) y u,ys[i]? = some y->vs[i]? = some u->VR (zP E hm sm) w y u/\CP sm.length hm.length y:=fun i y u hy hu=>by
    have hi:i<xs.length:=by have:=(List.getElem?_eq_some_iff.1 hy).1;omega
    have hx:=List.getElem?_eq_getElem hi;exact ih (hc _ (List.mem_of_getElem? hx)) (hvs.2 i _ u hx hu) (m2 i _ y hx hy)
   refine ⟨⟨m1.trans hvs.1,fun i y u hy hu=>(key i y u hy hu).1⟩,fun e he=>?_⟩
   obtain ⟨i,hi⟩:=List.getElem?_of_mem he;have hlt:i<vs.length:=by have:=(List.getElem?_eq_some_iff.1 hi).1;have:=hvs.1;omega
   exact (key i e _ hi (List.getElem?_eq_getElem hlt)).2
  have hD:∀{h i:Nat},posN h 0 hm=some i->E.D h->(zP E hm sm).D i/\(zP E hm sm).ρ i=E.ρ h/\i<hm.length:=fun {h i} e hd=>by
   obtain ⟨j,e1,e2⟩:=zDe e;have e1:i=j:=by omega
   subst e1;refine ⟨⟨h,e2,hd⟩,?_,(List.getElem?_eq_some_iff.1 e2).1⟩
   show E.ρ (hm.getD i 0)=E.ρ h
   rw [List.getD_eq_getElem?_getD,e2];rfl
  have hpp:∀{v:AV} {cv:Value},PP v->VR E w v cv->VR (zP E hm sm) w v cv:=fun hp hv=>VR.pp (E:=E) (E':=zP E hm sm) (w:=w) (w':=w) (fun b hb=>⟨hb,rfl⟩) hv hp
  unfold rnV at h;split at h
  ·split at h
   ·rename_i i e;cases h;cases hv with
    | ptr _ _ hd=>
     obtain ⟨g1,g2,g3⟩:=hD e hd;rw [←g2];exact ⟨.ptr _ _ g1,.ptr _ _ g3⟩
   ·cases h
  ·split at h
   ·rename_i i e;cases h;obtain ⟨j,e1,e2⟩:=zDe e;have hlt:i<hm.length:=by have:=(List.getElem?_eq_some_iff.1 e2).1;omega
    cases hv with
    | row _ _ _ _ _ cap _ hd hlen hcap hsz hcp hex hb=>
     obtain ⟨g1,g2,g3⟩:=hD e hd;rw [←g2] at hb ⊢;exact ⟨.row _ _ _ _ _ cap _ g1 hlen hcap hsz hcp hex hb,.row _ _ _ _ _ _ hlt⟩
    | row0 _ _ _ _ ad=>exact ⟨.row0 _ _ _ _ ad,.row _ _ _ _ _ _ hlt⟩
   ·cases h
  ·split at h
   ·rename_i i e;cases h;cases hv with
    | map _ hd=>
     obtain ⟨g1,g2,g3⟩:=hD e hd;rw [←g2];exact ⟨.map _ g1,.map _ g3⟩
   ·cases h
  ·split at h
   ·rename_i i e;cases h;obtain ⟨j,e1,e2⟩:=zDe e;have e1:i=j:=by omega
    subst e1;have hlt:i<sm.length:=(List.getElem?_eq_some_iff.1 e2).1;cases hv with
    | sym _ _ he h1=>
     refine ⟨.sym _ _ (he.trans ?_) h1,.sym _ hlt⟩
     show _=E.σ (sm.getD i 0)
     rw [List.getD_eq_getElem?_getD,e2];rfl
   ·cases h
  ·split at h
   ·rename_i x' hx;split at h
    ·rename_i y' hy;cases h;cases hcp with
     | func _ _ _ ha hb=>
      cases hv with
      | func _ _ _ vf vc hf hc rf rc=>
       obtain ⟨⟨g1,g2⟩,g3⟩:=al (vs:=vf.toList) ha ⟨by simpa using hf,fun i x v hx hv=>rf i x v hx (by simpa using hv)⟩ hx
       obtain ⟨⟨g4,g5⟩,g6⟩:=al (vs:=vc.toList) hb ⟨by simpa using hc,fun i x v hx hv=>rc i x v hx (by simpa using hv)⟩ hy
       exact ⟨.func _ _ _ vf vc (by simpa using g1) (by simpa using g4) (fun i x v hx hv=>g2 i x v hx (by simpa using hv)) (fun i x v hx hv=>g5 i x v hx (by simpa using hv)),.func _ _ _ g3 g6⟩
    ·cases h
   ·cases h
  ·split at h
   ·rename_i u' hu;cases h;cases hcp with
    | iface _ _ hc=>
     cases hv with
     | iface _ _ cv hv=>
      obtain ⟨g1,g2⟩:=ih hc hv hu;exact ⟨.iface _ _ cv g1,.iface _ _ g2⟩
   ·cases h
  ·split at h
   ·rename_i cs' hcs;cases h;cases hcp with
    | agg _ hc=>
     obtain ⟨vs,rfl,k1,k2⟩:=hv.of_agg;obtain ⟨g1,g2⟩:=al hc k1 hcs;exact ⟨VR.mk_agg g1 k2,.agg _ g2⟩
   ·cases h
  ·split at h
   ·rename_i cs' hcs;cases h;cases hcp with
    | tup _ hc=>
     obtain ⟨vs,rfl,k1⟩:=hv.of_tup;obtain ⟨g1,g2⟩:=al hc k1 hcs;exact ⟨VR.mk_tup g1,.tup _ g2⟩
   ·cases h
  ·cases h;cases hcp with
   | eptr e off he=>exact ⟨hpp (.eptr _ _ he) hv,.eptr _ _ he⟩
   | lst sz es he=>exact ⟨hpp (.lst _ _ he) hv,.lst _ _ he⟩
   | bool b=>exact ⟨hpp (.bool _) hv,.bool _⟩
   | int k m=>exact ⟨hpp (.int _ _) hv,.int _ _⟩
   | str s=>exact ⟨hpp (.str _) hv,.str _⟩
   | nilptr=>exact ⟨hpp .nilptr hv,.nilptr⟩
   | nilslice=>exact ⟨hpp .nilslice hv,.nilslice⟩
   | nilmap=>exact ⟨hpp .nilmap hv,.nilmap⟩
   | nilfunc=>exact ⟨hpp .nilfunc hv,.nilfunc⟩
   | niliface=>exact ⟨hpp .niliface hv,.niliface⟩
   | ptr h' o' hk=>exact (‹∀(h o:Nat),AV.ptr h' o'=AV.ptr h o->False› _ _ rfl).elim
   | row a1 a2 a3 a4 a5 a6 hk=>exact (‹∀(h o l s c:Nat) (e:Bool),AV.row a1 a2 a3 a4 a5 a6=AV.row h o l s c e->False› _ _ _ _ _ _ rfl).elim
   | map a1 hk=>exact (‹∀(h:Nat),AV.map a1=AV.map h->False› _ rfl).elim
   | sym a1 hk=>exact (‹∀(h:Nat),AV.sym a1=AV.sym h->False› _ rfl).elim
   | func a1 a2 a3 ha hb=>exact (‹∀(f:Fn) (a b:List AV),AV.func a1 a2 a3=AV.func f a b->False› _ _ _ rfl).elim
   | iface a1 a2 ha=>exact (‹∀(t:Nat) (v:AV),AV.iface a1 a2=AV.iface t v->False› _ _ rfl).elim
   | agg a1 ha=>exact (‹∀(cs:List AV),AV.agg a1=AV.agg cs->False› _ rfl).elim
   | tup a1 ha=>exact (‹∀(cs:List AV),AV.tup a1=AV.tup cs->False› _ rfl).elim
theorem zGj {H:Heap} {hm sm:List Nat}:∀{l:List Nat} {i:Nat} {H':Heap},rnH H hm sm i l=some H'->H'.length=l.length/\H'.keys=List.range' i l.length/\∀p∈H',∃(j:Nat) (h:Nat) (str:Bool) (cs cs':List AV),l[j]? = some h/\p=(i+j,HO.cells str cs')/\H.get h=some (.cells str cs)/\zp (rnV hm sm 8) cs=some cs'
 | [],i,H',e=>by cases e;exact ⟨rfl,rfl,fun p hp=>by cases hp⟩
 | h::r,i,H',e=>by
  simp only [rnH] at e;split at e
  ·rename_i str cs hg;split at e
   ·rename_i cs' hcs;split at e
    ·rename_i H2 hr;cases e;obtain ⟨h1,h2,h3⟩:=zGj hr;refine ⟨by simp [h1],?_,fun p hp=>?_⟩
     ·have h2:List.map (·.1) H2=List.range' (i+1) r.length:=h2;show List.map (·.1) ((i,HO.cells str cs')::H2)=_
      rw [List.map_cons,h2,List.length_cons,List.range'_succ]
     ·rcases List.mem_cons.1 hp with rfl | hp
      ·exact ⟨0,h,str,cs,cs',rfl,rfl,hg,hcs⟩
      ·obtain ⟨j,h',s',c1,c2,q1,q2,q3,q4⟩:=h3 p hp;exact ⟨j+1,h',s',c1,c2,by simpa using q1,by rw [q2];congr 1;omega,q3,q4⟩
    ·cases e
   ·cases e
  ·cases e
theorem zGA {V:Vecs}:∀{l:List Nat} {i:Nat} {V':Vecs},rnVs V i l=some V'->V'.length=l.length/\∀j vi,V'.get j=some vi->∃k s,j=i+k/\l[k]? = some s/\V.get s=some vi/\vi.owns=true
 | [],i,V',e=>by cases e;exact ⟨rfl,fun j vi h=>by cases h⟩
 | s::r,i,V',e=>by
  have key:∀{V2:Vecs} {vi:VI},V.get s=some vi->vi.owns=true->rnVs V (i+1) r=some V2->V'=(i,vi)::V2->V'.length=(s::r).length/\∀j vi,V'.get j=some vi->∃k s',j=i+k/\(s::r)[k]? = some s'/\V.get s'=some vi/\vi.owns=true:=by
   intro V2 vi hg ho hr e;subst e;obtain ⟨h1,h2⟩:=zGA hr;refine ⟨by simp [h1],fun j vi' h=>?_⟩
   rw [Vecs.get_cons] at h;split at h
   ·rename_i e;cases h;exact ⟨0,s,e.symm,rfl,hg,ho⟩
   ·obtain ⟨k,s',q1,q2,q3,q4⟩:=h2 j vi' h;exact ⟨k+1,s',by omega,by simpa using q2,q3,q4⟩
  simp only [rnVs] at e;split at e
  ·rename_i sz es hg;split at e
   ·rename_i V2 hr;cases e;exact key hg rfl hr rfl
   ·cases e
  ·rename_i es hg;split at e
   ·rename_i V2 hr;cases e;exact key hg rfl hr rfl
   ·cases e
  ·cases e
theorem zKA {fr:Fr}:∀{ts:List Nat} {vs:List AV},zMB fr ts=some vs->vs.length=ts.length/\∀(i t:Nat) v,ts[i]? = some t->vs[i]? = some v->fr.get t=some v
 | [],vs,e=>by cases e;exact ⟨rfl,fun i t v h=>by simp at h⟩
 | t::ts,vs,e=>by
  simp only [zMB] at e;split at e
  ·rename_i v hv;split at e
   ·rename_i r hr;cases e;obtain ⟨h1,h2⟩:=zKA hr;refine ⟨by simp [h1],fun i t' v' ht hv'=>?_⟩
    cases i with
    | zero=>simp at ht hv';subst ht;subst hv';exact hv
    | succ i=>exact h2 i t' v' (by simpa using ht) (by simpa using hv')
   ·cases e
  ·cases e
theorem zJw:∀{ts:List Nat} {vs:List AV} {t:Nat} {v:AV},(zipF ts vs).get t=some v->∃i:Nat,ts[i]? = some t/\vs[i]? = some v
 | [],vs,t,v,h=>by cases vs <;> cases h
 | t0::ts,[],t,v,h=>by cases h
 | t0::ts,v0::vs,t,v,h=>by
  simp only [zipF,Fr.get] at h;split at h
  ·rename_i e;cases h;exact ⟨0,by rw [zb e];rfl,rfl⟩
  ·obtain ⟨i,h1,h2⟩:=zJw h;exact ⟨i+1,by simpa using h1,by simpa using h2⟩
structure CanV (hm sm:List Nat) (st:Sta) (H:Heap) (V:Vecs):Prop where
 ndm:hm.Nodup
 nds:sm.Nodup
 rh:rnH st.H hm sm 0 hm=some H
 rv:rnVs st.V 0 sm=some V
theorem zIa (hG:GPP G) (s:SR G nt E w a β st) {hm sm:List Nat} {vs0:List AV} {cvs:List Value} (hcp:∀v∈vs0,CP st.mv st.m v) (hvs0:VRs E w vs0 cvs) {k:List AV->Heap->Vecs->Prop} (h:zCb hm sm vs0 st k):
  ∃vs H V,k vs H V/\CanV hm sm st H V/\zp (rnV hm sm 8) vs0=some vs/\VRs (zP E hm sm) w vs cvs/\(∀v∈vs,CP V.length H.length v)/\(∀nt' a' fr',FrR (zP E hm sm) w fr' a' nt'->FrCP V.length H.length fr'->SR G nt' (zP E hm sm) w a' (fun i=>β (sm.getD i 0)) ⟨fr',H,V,H.length,V.length⟩) ∧
   Kp E.Z (BS E β st.H st.V) w (zP E hm sm).Z (BS (zP E hm sm) (fun i=>β (sm.getD i 0)) H V) w:=by
 unfold zCb at h;split at h
 rotate_left
 ·exact h.elim
 rename_i hnd;rw [Bool.and_eq_true] at hnd;have hndm:=zID hnd.1;have hnds:=zID hnd.2;split at h
 rotate_left
 ·exact h.elim
 rename_i vs hvs;split at h
 rotate_left
 ·exact h.elim
 rename_i H hH;split at h
 rotate_left
 ·exact h.elim
 rename_i V hV;obtain ⟨g1,g2,g3⟩:=zGj hH;obtain ⟨v1,v2⟩:=zGA hV;obtain ⟨m1,m2⟩:=zAj hvs;have hσ:∀{j s':Nat},sm[j]? = some s'->(zP E hm sm).σ j=E.σ s':=fun {j s'} e=>by
  show E.σ (sm.getD j 0)=E.σ s'
  rw [List.getD_eq_getElem?_getD,e];rfl
 have hρ:∀{j h':Nat},hm[j]? = some h'->(zP E hm sm).ρ j=E.ρ h':=fun {j h'} e=>by
  show E.ρ (hm.getD j 0)=E.ρ h'
  rw [List.getD_eq_getElem?_getD,e];rfl
 have inj:∀{l:List Nat} {i j x:Nat},l.Nodup->l[i]? = some x->l[j]? = some x->i=j:=fun {l i j x} hn hi hj=>by
  obtain ⟨h1,h2⟩:=List.getElem?_eq_some_iff.1 hi;obtain ⟨h3,h4⟩:=List.getElem?_eq_some_iff.1 hj;exact (List.getElem_inj hn).1 (h2.trans h4.symm)
 have hval:∀(i:Nat) x u,vs[i]? = some x->cvs[i]? = some u->VR (zP E hm sm) w x u/\CP V.length H.length x:=fun i x u hx hu=>by
  have hi:i<vs0.length:=by have:=(List.getElem?_eq_some_iff.1 hx).1;omega
  have hx0:=List.getElem?_eq_getElem hi;have:=zKz 8 (hcp _ (List.mem_of_getElem? hx0)) (hvs0.2 i _ u hx0 hu) (m2 i _ x hx0 hx);rw [v1,g1];exact this
 refine ⟨vs,H,V,h,⟨hndm,hnds,hH,hV⟩,hvs,⟨m1.trans hvs0.1,fun i x u hx hu=>(hval i x u hx hu).1⟩,fun x hx=>?_,fun nt' a' fr' hfr hfc=>⟨⟨?_,fun p hp=>?_,fun p hp q hq e=>?_,fun p hp=>?_,fun p hp=>?_,s.hr.zlt⟩,hfr,?_,fun i hi=>?_,hfc,fun p hp=>?_,fun j vi hj=>?_,fun j j2 i off hj=>?_,fun j vi b hj ho hb=>?_,fun j j' vi vi' b h1 h2 h3 h4 h5 h6=>?_⟩,?_⟩
 ·obtain ⟨i,hi⟩:=List.getElem?_of_mem hx;have hlt:i<cvs.length:=by have:=(List.getElem?_eq_some_iff.1 hi).1;have:=hvs0.1;omega
  exact (hval i x _ hi (List.getElem?_eq_getElem hlt)).2
 ·show H.keys.Nodup
  rw [g2];exact List.nodup_range'
 ·obtain ⟨j,h',str,cs,cs',e1,rfl,e3,e4⟩:=g3 p hp;have:=s.hr.dom _ (Heap.mem_of_get e3);exact ⟨h',by simpa using e1,this⟩
 ·obtain ⟨j,h',str,cs,cs',e1,rfl,e3,e4⟩:=g3 p hp;obtain ⟨j2,h2,str2,cs2,cs2',f1,rfl,f3,f4⟩:=g3 q hq;simp only [Nat.zero_add] at e ⊢;rw [hρ e1,hρ f1] at e;have:=s.hr.inj _ (Heap.mem_of_get e3) _ (Heap.mem_of_get f3) e;simp only at this;subst this;exact inj hndm e1 f1
 ·obtain ⟨j,h',str,cs,cs',e1,rfl,e3,e4⟩:=g3 p hp;simp only [Nat.zero_add];rw [hρ e1];have hmem:=Heap.mem_of_get e3;have hor:=s.hr.obj _ hmem;obtain ⟨_,_,ec,hcc⟩:=s.cH.get e3;cases ec;obtain ⟨cc,ee,ff,q1,q2,q3,q4⟩:=hor;obtain ⟨r1,r2⟩:=zAj e4;refine ⟨cc,ee,ff,q1,by omega,q3,fun i x hx=>?_⟩
  have hi:i<cs.length:=by have:=(List.getElem?_eq_some_iff.1 hx).1;omega
  have hx0:=List.getElem?_eq_getElem hi;obtain ⟨v,k1,k2,k3⟩:=q4 i _ hx0;exact ⟨v,k1,k2,(zKz 8 (hcc _ (List.mem_of_getElem? hx0)) k3 (r2 i _ x hx0 hx)).1⟩
 ·obtain ⟨j,h',str,cs,cs',e1,rfl,e3,e4⟩:=g3 p hp;simp only [Nat.zero_add];rw [hρ e1];exact s.hr.nz _ (Heap.mem_of_get e3)
 ·exact fun g u hg=>⟨VR.pp (E:=E) (E':=zP E hm sm) (w:=w) (w':=w) (fun b hb=>⟨hb,rfl⟩) (s.hg g u hg).1 (hG g u hg),(s.hg g u hg).2⟩
 ·obtain ⟨h',e,_⟩:=hi;show i<H.length
  rw [g1];exact (List.getElem?_eq_some_iff.1 e).1
 ·obtain ⟨j,h',str,cs,cs',e1,rfl,e3,e4⟩:=g3 p hp;refine ⟨str,cs',rfl,fun x hx=>?_⟩
  show CP V.length H.length x
  rw [v1,g1];obtain ⟨_,_,ec,hcc⟩:=s.cH.get e3;cases ec;obtain ⟨r1,r2⟩:=zAj e4;obtain ⟨i,hi⟩:=List.getElem?_of_mem hx;have hlt:i<cs.length:=by have:=(List.getElem?_eq_some_iff.1 hi).1;omega
  have hx0:=List.getElem?_eq_getElem hlt;obtain ⟨_,_,_,_,_,_,q4⟩:=s.hr.obj _ (Heap.mem_of_get e3);obtain ⟨v,k1,k2,k3⟩:=q4 i _ hx0;exact (zKz 8 (hcc _ (List.mem_of_getElem? hx0)) k3 (r2 i _ x hx0 hi)).2
 ·obtain ⟨kk,s',rfl,q2,q3,q4⟩:=v2 j vi hj;simp only [Nat.zero_add] at hj ⊢;have hlt:=(List.getElem?_eq_some_iff.1 q2).1;refine ⟨by show kk<V.length;rw [v1];exact hlt,?_⟩
  have hgd:sm.getD kk 0=s':=by rw [List.getD_eq_getElem?_getD,q2];rfl
  have hvo:=(s.vok s' vi q3).2;cases vi with
  | vec sz es=>
   obtain ⟨hp,⟨e1,e2,e3⟩ | ⟨b,str,cs,cp,ex,e1,e2,e3,e4,e5,e6⟩⟩:=hvo
   ·exact ⟨hp,.inl ⟨by simp only [hgd];exact e1,(hσ q2).trans e2,e3⟩⟩
   ·exact ⟨hp,.inr ⟨b,str,cs,cp,ex,by simp only [hgd];exact e1,OR.pp (E:=E) (E':=zP E hm sm) (w:=w) (w':=w) rfl (fun b hb=>⟨hb,rfl⟩) e4 e2,by rw [hσ q2];exact e3,e4,e5,e6⟩⟩
  | mp es=>
   obtain ⟨hp,b,e1,e2,e3⟩:=hvo;exact ⟨hp,b,by simp only [hgd];exact e1,OR.pm (E:=E) (E':=zP E hm sm) (w:=w) (w':=w) rfl (fun b hb=>⟨hb,rfl⟩) hp e2,(hσ q2).trans e3⟩
  | vptr=>cases q4
 ·obtain ⟨kk,s',rfl,q2,q3,q4⟩:=v2 j _ hj;cases q4
 ·obtain ⟨kk,s',rfl,q2,q3,q4⟩:=v2 j vi hj;simp only [Nat.zero_add] at hb;have hgd:sm.getD kk 0=s':=by rw [List.getD_eq_getElem?_getD,q2];rfl
  rw [hgd] at hb;obtain ⟨z1,z2⟩:=s.bz s' vi b q3 ho hb;refine ⟨z1,fun p hp e=>?_⟩
  obtain ⟨j,h',str,cs,cs',e1,rfl,e3,e4⟩:=g3 p hp;simp only [Nat.zero_add] at e;rw [hρ e1] at e;exact z2 _ (Heap.mem_of_get e3) e
 ·obtain ⟨kk,s',rfl,q2,q3,q4⟩:=v2 j vi h1;obtain ⟨kk2,s2,rfl,r2,r3,r4⟩:=v2 j' vi' h2;simp only [Nat.zero_add] at h5 h6 ⊢;have hgd:sm.getD kk 0=s':=by rw [List.getD_eq_getElem?_getD,q2];rfl
  have hgd2:sm.getD kk2 0=s2:=by rw [List.getD_eq_getElem?_getD,r2];rfl
  rw [hgd] at h5;rw [hgd2] at h6;have:=s.binj s' s2 vi vi' b q3 r3 h3 h4 h5 h6;subst this;exact inj hnds q2 r2
 ·refine Kp.less fun x hx=>?_
  rcases hx with ⟨p,hp,e⟩ | ⟨j,vi,hj,ho,hb⟩
  ·obtain ⟨j,h',str,cs,cs',e1,rfl,e3,e4⟩:=g3 p hp;simp only [Nat.zero_add] at e;rw [hρ e1] at e;exact .inl ⟨_,Heap.mem_of_get e3,e⟩
  ·obtain ⟨kk,s',rfl,q2,q3,q4⟩:=v2 j vi hj;simp only [Nat.zero_add] at hb;have hgd:sm.getD kk 0=s':=by rw [List.getD_eq_getElem?_getD,q2];rfl
   rw [hgd] at hb;exact .inr ⟨s',vi,q3,ho,hb⟩
theorem zVx (hG:GPP G) (s:SR G nt E w a β st) {c:Cut} {k:List AV->Heap->Vecs->Prop} (h:canon c st k):∃vs H V,k vs H V/\∃E1 β1,SR G nt E1 w a β1 (mkW c vs H V)/\Kp E.Z (BS E β st.H st.V) w E1.Z (BS E1 β1 H V) w:=by
 unfold canon at h;split at h
 ·exact h.elim
 rename_i vs0 hvs0;unfold zHr at h;generalize zE8 st.H 30 0 (vs0.foldl (fun a v=>hsA 8 v a) (List.range c.pins))=hm at h
 generalize zCw st.H hm (vs0.foldl (fun a v=>zFi 8 v a) [])=sm at h
 obtain ⟨l1,l2⟩:=zKA hvs0;have hg:∀(i:Nat) x,vs0[i]? = some x->∃t,c.slots[i]? = some t/\st.fr.get t=some x:=fun i x hx=>by
  have hi:i<c.slots.length:=by have:=(List.getElem?_eq_some_iff.1 hx).1;omega
  have ht:=List.getElem?_eq_getElem hi;exact ⟨_,ht,l2 i _ x ht hx⟩
 obtain ⟨vs,H,V,k1,cv,k2,k3,k4,k5,k6⟩:=zIa hG s (vs0:=vs0) (cvs:=c.slots.map fun t=>a.tmps.getD t undef) (fun x hx=>by
  obtain ⟨i,hi⟩:=List.getElem?_of_mem hx;obtain ⟨t,_,h2⟩:=hg i x hi;exact s.cfr t x h2) ⟨by simp [l1],fun i x u hx hu=>by
  obtain ⟨t,h1,h2⟩:=hg i x hx;rw [List.getElem?_map,h1] at hu;cases hu;exact s.hf.get t x h2⟩ h
 refine ⟨vs,H,V,k1,_,_,k5 nt a (zipF c.slots vs) ⟨s.hf.size,fun t v ht=>?_⟩ (fun t v ht=>?_),k6⟩
 ·obtain ⟨i,h1,h2⟩:=zJw ht;exact k3.2 i v _ h2 (by rw [List.getElem?_map,h1];rfl)
 ·obtain ⟨i,h1,h2⟩:=zJw ht;exact k4 v (List.mem_of_getElem? h2)
end
end Go.Sy
