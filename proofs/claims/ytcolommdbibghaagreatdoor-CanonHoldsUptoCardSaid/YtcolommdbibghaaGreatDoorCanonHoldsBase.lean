/- THE LAW'S BASE: the package variables that it reads, and what Go's library gives. No condition. -/
import Derived.Test.YtcolommdbibghaaGreatDoorFxF
import Derived.Test.YtcolommdbibghaaGreatDoorChecked
import Derived.WalkKit
import Derived.Lib.SmallJoins
import Derived.Test.YtcolommdbibghaaGreatDoorProg
import Derived.Deep.LoopGhost
import Derived.Deep.Draws
import Derived.Lib.Walk
import Derived.Lib.SlBy
import Derived.Lib.SlKept
import Derived.Lib.SliceRun
import Derived.Sort.Grow
import Derived.Sort.WalkB12
import Derived.Shelf.RegionOpenPlain
import Derived.Shelf.GgSortFunc.Insertion
import Derived.Shelf.SlicesE.Kit
import Derived.Shelf.SlSortCmp.QuietGrown
import Derived.Test.YtcolommdbibghaaGreatDoorShelf
import Derived.WalkKit
set_option linter.unusedVariables false
set_option linter.unusedSimpArgs false
namespace Go.Proofs.YtcolommdbibghaaGreatDoor.canon
open Go.Sy
theorem own:ownKnob Tryz.prog.godebug=none:=by kernel_rfl
theorem mixed:Tryz.prog.follows .mixedOrders=true:=by kernel_rfl
noncomputable def zPv:List Int:=[0,1,28,2,29,14,24,3,30,22,20,15,25,17,4,8,31,27,13,23,21,19,16,7,26,12,18,6,11,5,10,9]
noncomputable def zMJ:JE:=zPv.map λz=>.int .u8 z
noncomputable def zPw:List Int:=[0,1,56,2,57,49,28,3,61,58,42,50,38,29,17,4,62,47,59,36,45,43,51,22,53,39,33,30,24,18,12,5,63,55,48,27,60,41,37,16,46,35,44,21,52,32,23,11,54,26,40,15,34,20,31,10,25,14,19,9,13,8,7,6]
noncomputable def zMK:JE:=zPw.map λz=>.int .u8 z
noncomputable def zPx:List Int:=[1,10,100,1000,10000,100000,1000000,10000000,100000000,1000000000,10000000000,100000000000,1000000000000,10000000000000,100000000000000,1000000000000000,10000000000000000,100000000000000000,1000000000000000000,10000000000000000000]
noncomputable def zIV:JE:=zPx.map λz=>.int .u64 z
noncomputable def zLL:Cx:=⟨λn=>match Nat.beq n 4 with
 |true=>some (.qc (.agg zMJ) 0)
 |false=>match Nat.beq n 5 with
 |true=>some (.qc (.agg zMK) 0)
 |false=>match Nat.beq n 3 with
 |true=>some (.qc (.agg zIV) 0)
 |false=>match Nat.beq n 2 with
 |true=>some (.qc (.agg [.iface 198 (.qc (.agg [.str [118,97,108,117,101,32,111,117,116,32,111,102,32,114,97,110,103,101]]) 0)]) 0)
 |false=>match Nat.beq n 1 with
 |true=>some (.qc (.agg [.iface 198 (.qc (.agg [.str [105,110,118,97,108,105,100,32,115,121,110,116,97,120]]) 0)]) 0)
 |false=>none,λ_ _=>none⟩
theorem zSQ:zAr Tryz.prog zLL:=λ_ _ _ h=>by cases h
theorem zZy {l:List (String×DataW Unit)} {W:World} {σ:Nat->Value} (hL:laidMet Tryz.prog l W) (hm:("math/bits.deBruijn32tab",Lib.tabData .u8 zPv)∈l):VR (Env.still W σ) W (.qc (.agg zMJ) 0) (.pointer (some ⟨4,0,none⟩))/\zEn W 4 (.qc (.agg zMJ) 0):=by
 exact zMt hL hm (by kernel_rfl) (t:=207) (e:=5) (len:=32) (by kernel_rfl) (by kernel_rfl) (by kernel_rfl) (by kernel_rfl) (by kernel_rfl) (by kernel_rfl)
theorem zZz {l:List (String×DataW Unit)} {W:World} {σ:Nat->Value} (hL:laidMet Tryz.prog l W) (hm:("math/bits.deBruijn64tab",Lib.tabData .u8 zPw)∈l):VR (Env.still W σ) W (.qc (.agg zMK) 0) (.pointer (some ⟨5,0,none⟩))/\zEn W 5 (.qc (.agg zMK) 0):=by
 exact zMt hL hm (by kernel_rfl) (t:=208) (e:=5) (len:=64) (by kernel_rfl) (by kernel_rfl) (by kernel_rfl) (by kernel_rfl) (by kernel_rfl) (by kernel_rfl)
theorem zZA {l:List (String×DataW Unit)} {W:World} {σ:Nat->Value} (hL:laidMet Tryz.prog l W) (hm:("internal/strconv.uint64pow10",Lib.tabData .u64 zPx)∈l):VR (Env.still W σ) W (.qc (.agg zIV) 0) (.pointer (some ⟨3,0,none⟩))/\zEn W 3 (.qc (.agg zIV) 0):=by
 exact zMt hL hm (by kernel_rfl) (t:=180) (e:=162) (len:=20) (by kernel_rfl) (by kernel_rfl) (by kernel_rfl) (by kernel_rfl) (by kernel_rfl) (by kernel_rfl)
theorem star : "*" ++ "errors.errorString" = "*errors.errorString":=by decide
theorem zTK (u:TypeId) (h:Tryz.prog.typeName? 3 u=some "*errors.errorString"):u=198:=
 typeName_ptr_named (nm := "errors.errorString") (by rw[star];kernel_rfl) (by kernel_rfl) (by decide) u (by rw[star];exact h)
theorem zZB {l:List (String×DataW Unit)} {W:World} {σ:Nat->Value} (hL:laidMet Tryz.prog l W) (hm:("strconv.ErrRange",(.iface "*errors.errorString" (.ptr (.agg [.lit (.string [118,97,108,117,101,32,111,117,116,32,111,102,32,114,97,110,103,101])])):DataW Unit))∈l):
  VR (Env.still W σ) W (.qc (.agg [.iface 198 (.qc (.agg [.str [118,97,108,117,101,32,111,117,116,32,111,102,32,114,97,110,103,101]]) 0)]) 0) (.pointer (some ⟨2,0,none⟩))/\zEn W 2 (.qc (.agg [.iface 198 (.qc (.agg [.str [118,97,108,117,101,32,111,117,116,32,111,102,32,114,97,110,103,101]]) 0)]) 0):=
 zOW hL hm (by kernel_rfl) (by kernel_rfl) Tryz.underlying85 zTK Tryz.underlying198 Tryz.underlying200 rfl rfl Tryz.underlying9 (by kernel_rfl) (by kernel_rfl)
theorem zZC {l:List (String×DataW Unit)} {W:World} {σ:Nat->Value} (hL:laidMet Tryz.prog l W) (hm:("strconv.ErrSyntax",(.iface "*errors.errorString" (.ptr (.agg [.lit (.string [105,110,118,97,108,105,100,32,115,121,110,116,97,120])])):DataW Unit))∈l):
  VR (Env.still W σ) W (.qc (.agg [.iface 198 (.qc (.agg [.str [105,110,118,97,108,105,100,32,115,121,110,116,97,120]]) 0)]) 0) (.pointer (some ⟨1,0,none⟩))/\zEn W 1 (.qc (.agg [.iface 198 (.qc (.agg [.str [105,110,118,97,108,105,100,32,115,121,110,116,97,120]]) 0)]) 0):=
 zOW hL hm (by kernel_rfl) (by kernel_rfl) Tryz.underlying85 zTK Tryz.underlying198 Tryz.underlying200 rfl rfl Tryz.underlying9 (by kernel_rfl) (by kernel_rfl)
theorem zVc {l:List (String×DataW Unit)} {W:World} {σ:Nat->Value} (hL:laidMet Tryz.prog l W) (h4:("math/bits.deBruijn32tab",Lib.tabData .u8 zPv)∈l) (h5:("math/bits.deBruijn64tab",Lib.tabData .u8 zPw)∈l) (h0:("internal/strconv.uint64pow10",Lib.tabData .u64 zPx)∈l) (h7:("strconv.ErrRange",(.iface "*errors.errorString" (.ptr (.agg [.lit (.string [118,97,108,117,101,32,111,117,116,32,111,102,32,114,97,110,103,101])])):DataW Unit))∈l) (h6:("strconv.ErrSyntax",(.iface "*errors.errorString" (.ptr (.agg [.lit (.string [105,110,118,97,108,105,100,32,115,121,110,116,97,120])])):DataW Unit))∈l):GR zLL (Env.still W σ) W:=λg v h=>by
 simp only[zLL]at h;split at h
 .rename_i hb;cases h;rw[Nat.eq_of_beq_eq_true hb];exact zZy hL h4
 split at h
 .rename_i hb;cases h;rw[Nat.eq_of_beq_eq_true hb];exact zZz hL h5
 split at h
 .rename_i hb;cases h;rw[Nat.eq_of_beq_eq_true hb];exact zZA hL h0
 split at h
 .rename_i hb;cases h;rw[Nat.eq_of_beq_eq_true hb];exact zZB hL h7
 split at h
 .rename_i hb;cases h;rw[Nat.eq_of_beq_eq_true hb];exact zZC hL h6
 cases h
end Go.Proofs.YtcolommdbibghaaGreatDoor.canon
namespace Go.Proofs.YtcolommdbibghaaGreatDoor
open Go.RowKit Go.Lib Go.Sort Go.Proofs
variable{α:Type}[Inhabited α]
def zWn(g:Nat)(enc:α->Value)(p:α->Bool)(w:World)(x:α):Prop:=
 ∀q os,Calls Tryz.prog g #[enc x] (grow (w.drewN q) os) λe w'=>e=.returned (.bool (p x))/\∃q' os',w'=grow (w.drewN q') os'
set_option maxHeartbeats 2000000 in
theorem zNV(enc:α->Value)(p:α->Bool)(g:Nat)(eg:∀args w,(callFunc g args).run Tryz.prog w=.ok (.enter g args) w)(b off n c:Nat)(zs:List α)(w:World)
  (hp:∀x∈zs,zWn g enc p w x) (hz:n=zs.length) (hbig:n<=9223372036854775807) (hbs:b<w.heap.size) (hc:∀j,j<zs.length->w.cell? ⟨b,off+j,none⟩=some (enc zs[j]!)):
  Calls Tryz.prog 106 #[.slice (some ⟨b,off,none⟩) n c,.func (.func g) #[] #[]] w λe w'=>e=.returned (.int .i64 (Lib.idxBy (λ_ y=>p y) zs default))/\∃q os,w'=grow (w.drewN q) os:=by
 have HC:Aside (n=zs.length/\(∀j q os,j<n->(grow (w.drewN q) os).cell? ⟨b,off+j,none⟩=some (enc zs[j]!))/\∀x∈zs,zWn g enc p w x):=⟨hz,λj q os hj=>by
  rw[cell?_grow _ _ _ (by exact hbs)]
  exact hc j (by omega),hp⟩
 clear hc hp hz
 go_enter Tryz.func106,Tryz.ntmps106
 go_wp2
 go_loopg [5,8] n (λgg _ s8 wr=>∃(kk q:Nat) (os:Array Obj),kk<=n/\n-kk<=gg/\s8=.int .i64 kk/\wr=grow (w.drewN q) os/\Aside (∀j,j<kk->p zs[j]! = false))
 case atStart=>exact⟨0,0,#[],QV _,by omega,rfl,by rw[grow_empty];rfl,λj hj=>absurd hj (Nat.not_lt_zero _)⟩
 case round=>
  obtain⟨kk,q,os,hkk,hg,rfl,hwr,A⟩:=hrel;by_cases hlt:kk<n
  .have hltz:(kk:Int)<(n:Int):=by omega
   have hcell:wr.cell? ⟨b,off+kk,none⟩=some (enc zs[kk]!):=by rw[hwr];exact HC.out.2.1 kk q os hlt
   have hmem:zs[kk]!∈zs:=by
    rw[getElem!_pos zs kk (by have:=HC.out.1;omega)];exact Qi _
   have hcall:Calls Tryz.prog g #[enc zs[kk]!] wr λe w'=>e=.returned (.bool (p zs[kk]!))/\∃q' os',w'=grow (w.drewN q') os':=by
    rw[hwr];exact HC.out.2.2 _ hmem _ _
   generalize hy:zs[kk]! = y at hcell hcall;have B:Aside (zs[kk]! = y/\wr=grow (w.drewN q) os):=⟨hy,hwr⟩
   clear hy hwr hmem
   cases hq:p y with
   |true=>
    rw[hq]at hcall
    go_wp2_with (go_at_fn g;refine hcall.mono ?_;rintro e w' ⟨rfl,q',os',hw'⟩)
    go_ret
    refine⟨?_,q',os',rfl⟩
    have h1:=Lib.idxBy_hit (λ_ y=>p y) zs n kk default hlt (Nat.le_of_eq HC.out.1) (by show p zs[kk]! = true;rw[B.out.1];exact hq) A.out
    rw[show zs.take n=zs from List.take_of_length_le (Nat.le_of_eq HC.out.1.symm)]at h1
    rw[h1];rfl
   |false=>
    rw[hq]at hcall
    go_wp2_with (go_at_fn g;refine hcall.mono ?_;rintro e w' ⟨rfl,q',os',hw'⟩)
    go_roundg (n-(kk+1))
    case measure=>omega
    case rel=>
     refine⟨kk+1,q',os',by omega,by omega,by go_num,rfl,(show Aside _ from λj hj=>?_)⟩
     by_cases e:j=kk
     .subst e;rw[B.out.1];exact hq
     .exact A.out j (by omega)
  .have hltz:¬(kk:Int)<(n:Int):=by omega
   have:kk=n:=by omega
   subst this
   go_wp2
   go_ret
   refine⟨?_,q,os,rfl⟩
   have h1:=Lib.idxBy_miss (λ_ y=>p y) zs kk default A.out
   rw[show zs.take kk=zs from List.take_of_length_le (Nat.le_of_eq HC.out.1.symm)]at h1
   rw[h1];rfl
def zWo(g:Nat)(enc:α->Value)(p:α->Bool)(blk off size:Nat)(w:World)(x:α):Prop:=
 ∀q os (dk:Array α),dk.size=size->Calls Tryz.prog g #[enc x] (sortWorld enc w blk off q dk os) λe w'=>e=.returned (.bool (p x))/\∃q' os',w'=sortWorld enc w blk off q' dk os'
theorem zML(enc:α->Value)(w:World)(blk off:Nat)(d:Array α)(h:Holds enc w blk off d)(q:Nat)(os:Array Obj):sortWorld enc w blk off q d os=grow (w.drewN q) os:=by
 unfold sortWorld;rw[putRow_self enc (Sort.ahead w q) blk off d (holds_ahead enc w q blk off d h)];rfl
theorem zF0(enc:α->Value)(w:World)(blk off:Nat)(d dk:Array α)(h:Holds enc w blk off d)(hb:blk<w.heap.size)(hs:dk.size=d.size)(q:Nat)(os:Array Obj):Holds enc (sortWorld enc w blk off q dk os) blk off dk:=by
 unfold sortWorld;exact holds_grow _ _ _ _ _ _ (by simpa using hb) (holds_putRow enc _ blk off d dk (holds_ahead enc w q blk off d h) hs)
theorem zPT(enc:α->Value)(w:World)(blk off:Nat)(dk:Array α)(hb:blk<w.heap.size)(q:Nat)(os:Array Obj)(i:Nat)(hi:i<dk.size)(x:α):
  (sortWorld enc w blk off q dk os).setCell ⟨blk,off+i,none⟩ (enc x)=sortWorld enc w blk off q (dk.setIfInBounds i x) os:=by
 unfold sortWorld;rw[setCell_eq,mapBlock_grow _ _ _ _ (by simpa using hb),←setCell_eq,putRow_set enc _ blk off dk i x hi]
theorem zLS(enc:α->Value)(w:World)(blk off:Nat)(hb:blk<w.heap.size)(q:Nat)(os:Array Obj):∀(xs:List α)(d:Array α)(k:Nat),k+xs.length<=d.size->(sortWorld enc w blk off q d os).setCells blk (off+k) (xs.map enc)=sortWorld enc w blk off q (lay d k xs) os
 |[],d,k,h=>rfl
 |x::xs,d,k,h=>by
  simp only[QZ]at h;show((sortWorld enc w blk off q d os).setCell ⟨blk,off+k,none⟩ (enc x)).setCells blk (off+k+1) (xs.map enc)=sortWorld enc w blk off q (lay (d.setIfInBounds k x) (k+1) xs) os
  rw[zPT enc w blk off d hb q os k (by omega) x,Nat.add_assoc]
  exact zLS enc w blk off hb q os xs _ (k+1) (by simp;omega)
theorem zTL(enc:α->Value)(w:World)(blk off:Nat)(dk:Array α)(hb:blk<w.heap.size)(q:Nat)(os:Array Obj)(i:Nat)(zr:α)(n:Nat)(hs:n=dk.size)(hi:i<=n):
  (sortWorld enc w blk off q dk os).setCells blk (off+i) (List.replicate (n-i) (enc zr))=sortWorld enc w blk off q (lay dk i (List.replicate (n-i) zr)) os:=by
 rw[←zLS enc w blk off hb q os (List.replicate (n-i) zr) dk i (by simp;omega),List.map_replicate]
theorem zOE(p:α->Bool):∀(l:List α)(i:Nat),(Lib.idxByFrom (λ_ y=>p y) default l i=-1/\∀j,j<l.length->p l[j]! = false)\/∃k,k<l.length/\Lib.idxByFrom (λ_ y=>p y) default l i=((i+k:Nat):Int)/\p l[k]! = true/\∀j,j<k->p l[j]! = false
 |[],_=>.inl ⟨rfl,λj hj=>absurd hj (Nat.not_lt_zero _)⟩
 |y::r,i=>by
  cases h:p y with
  |true=>exact .inr ⟨0,by simp,by simp[Lib.idxByFrom,h],by simpa using h,λj hj=>absurd hj (Nat.not_lt_zero _)⟩
  |false=>
   rcases zOE p r (i+1)with⟨e,ha⟩|⟨k,hk,e,ht,ha⟩
   .refine .inl ⟨by simp[Lib.idxByFrom,h,e],λj hj=>?_⟩
    cases j with
    |zero=>simpa using h
    |succ j=>simpa using ha j (by simpa using hj)
   .refine .inr ⟨k+1,by simpa using hk,by simp only[Lib.idxByFrom,h];rw[show(if false=true then(i:Int)else Lib.idxByFrom (λ_ y=>p y) default r (i+1))=Lib.idxByFrom (λ_ y=>p y) default r (i+1)from rfl,e];congr 1;omega,by simpa using ht,λj hj=>?_⟩
    cases j with
    |zero=>simpa using h
    |succ j=>simpa using ha j (by omega)
set_option maxHeartbeats 4000000 in
set_option maxRecDepth 1000000 in
theorem zMM(enc:α->Value)(hO:OneCell enc)(p:α->Bool)(g:Nat)(eg:∀args w,(callFunc g args).run Tryz.prog w=.ok (.enter g args) w)(zr:α)(hzr:enc zr=.pointer none)
  (blk off cap:Nat) (d:Array α) (w:World) (hp:∀x∈d.toList,zWo g enc p blk off d.size w x) (hH:Holds enc w blk off d) (hblk:blk<w.heap.size) (hsz:d.size<=9223372036854775807) (uj:d.size<=cap):
  Calls Tryz.prog 107 #[.slice (some ⟨blk,off,none⟩) d.size cap,.func (.func g) #[] #[]] w λe w'=>e=.returned (.slice (some ⟨blk,off,none⟩) (d.toList.filter λx=>!p x).length cap)/\∃q os,w'=sortWorld enc w blk off q ((d.toList.filter λx=>!p x)++List.replicate (d.size-(d.toList.filter λx=>!p x).length) zr).toArray os:=by
 have v62:∀w,(zeroValue 62).run Tryz.prog w=.ok (enc zr) w:=by rw[hzr];exact Tryz.zeroValue62
 have e6:∀args w,(callFunc 106 args).run Tryz.prog w=.ok (.enter 106 args) w:=λ_ _=>rfl
 have hcl0:=hO.cells;simp only[Value.cells]at hcl0;have hst:=hO.store Tryz.prog;have tl:∀j,j<d.size->d.toList[j]! = d[j]!:=λj hj=>by rw[getElem!_pos d j hj,getElem!_pos d.toList j (by simpa using hj)];simp
 have hIF:=zNV enc p g eg blk off d.size cap d.toList w (λx hx q os=>by
  have:=hp x hx q os d rfl;rw[zML enc w blk off d hH]at this;refine this.mono ?_
  rintro e w' ⟨h1,q',os',h2⟩
  exact⟨h1,q',os',by rw[h2,zML enc w blk off d hH]⟩) (by simp) hsz hblk (λj hj=>by
  have hj':j<d.size:=by simpa using hj
  rw[(hH j hj').1,tl j hj'])
 obtain⟨kp,HK⟩:∃kp:Nat->Bool,Hid (kp=λj=>!p d[j]!):=⟨_,rfl⟩
 have hfil:(d.toList.filter λx=>!p x)=keptUpTo kp d d.size:=by rw[HK.out];exact(keptUpTo_filter (λx=>!p x) d).symm
 rw[hfil];rcases zOE p d.toList 0 with⟨e1,hall⟩|⟨k0,hk0,e1,ht,hall⟩
 ·
  have e2:Lib.idxBy (λ_ y=>p y) d.toList default=-1:=e1
  rw[e2]at hIF;have hkeep:∀j,j<d.size->kp j=true:=λj hj=>by rw[HK.out];show(!p d[j]!)=true;rw[←tl j hj,hall j (by simpa using hj)];rfl
  have e3:keptUpTo kp d d.size=d.toList:=by rw[keptUpTo_all kp d _ hkeep,range_map_get]
  have HH:Aside (Holds enc w blk off d):=hH
  clear hH hp
  go_enter Tryz.func107,Tryz.ntmps107
  go_wp2_with (go_at_fn 106;refine hIF.mono ?_;rintro e w' ⟨rfl,q0,os0,rfl⟩)
  go_ret
  rw[e3];refine⟨by simp,q0,os0,?_⟩
  simp only[Array.length_toList,Nat.sub_self,List.replicate_zero,List.append_nil,Array.toArray_toList];exact(zML enc w blk off d HH.out _ _).symm
 .have hk0':k0<d.size:=by simpa using hk0
  have e2:Lib.idxBy (λ_ y=>p y) d.toList default=(k0:Int):=by unfold Lib.idxBy;rw[e1];simp
  rw[e2]at hIF;have hkeep:∀j,j<k0->kp j=true:=λj hj=>by rw[HK.out];show(!p d[j]!)=true;rw[←tl j (by omega),hall j hj];rfl
  have hdrop:kp k0=false:=by rw[HK.out];show(!p d[k0]!)=false;rw[←tl k0 hk0'];rw[show p d.toList[k0]! = true from ht];rfl
  have hne1:((k0:Int)==-1)=false:=beq_eq_false_iff_ne.2 (by omega)
  have HC:Aside ((∀x∈d.toList,zWo g enc p blk off d.size w x)/\blk<w.heap.size):=⟨hp,hblk⟩;have HH:Aside (Holds enc w blk off d):=hH
  clear hp hH hall ht e1 e2 tl hblk
  go_enter Tryz.func107,Tryz.ntmps107
  go_wp2_with (go_at_fn 106;refine hIF.mono ?_;rintro e w' ⟨rfl,q0,os0,rfl⟩)
  go_loopg [5,6,7] d.size (λgg s5 s6 _ wr=>∃(i j q:Nat) (os:Array Obj) (dk:Array α),s5=.int .i64 i/\s6=.int .i64 j/\j<=d.size/\d.size-j<=gg/\wr=sortWorld enc w blk off q dk os/\Aside (KeptInv kp d j i dk))
  case atStart=>exact⟨k0,k0+1,q0,os0,d,rfl,by go_num,by omega,by omega,(zML enc w blk off d HH.out _ _).symm,KeptInv.start hkeep hdrop⟩
  case round=>
   obtain⟨i,j,q,os,dk,rfl,rfl,hjd,hgg,hwr,I2⟩:=hrel;have hI:=I2.out;have hij:=hI.lt;have hds:=hI.size;have hHk:Holds enc wr blk off dk:=by rw[hwr];exact zF0 enc w blk off d dk HH.out HC.out.2 hds q os
   have W2:Aside (wr=sortWorld enc w blk off q dk os):=hwr;by_cases hlt:j<d.size
   .have hltz:(j:Int)<(d.size:Int):=by omega
    obtain⟨cj,_⟩:=hHk j (by omega)
    obtain⟨ci,fi⟩:=hHk i (by omega)
    rw[hI.high j (by omega)]at cj
    have hcall:=HC.out.1 d[j]! (by rw[getElem!_pos d j hlt];simp) q os dk hds
    rw[←hwr]at hcall;have hcall':Calls Tryz.prog g #[enc d[j]!] wr λe w'=>e=.returned (.bool (p d[j]!))/\w'.cell? ⟨blk,off+i,none⟩=some (enc dk[i]!)/\w'.frozen? ⟨blk,off+i,none⟩=false/\Aside (∃q' os',w'=sortWorld enc w blk off q' dk os'):=by
     refine hcall.mono ?_
     rintro e w' ⟨h1,q',os',h2⟩
     have:=zF0 enc w blk off d dk HH.out HC.out.2 hds q' os' i (by omega)
     rw[←h2]at this;exact⟨h1,this.1,this.2,q',os',h2⟩
    clear hHk hI hwr hcall
    generalize hu:d[j]! = u at cj hcall';generalize dk[i]! = wh at ci hcall';have C:Aside (d[j]! = u):=hu
    clear hu
    cases hq:p u with
    |false=>
     rw[hq]at hcall'
     go_wp2_with (go_at_fn g;refine hcall'.mono ?_;rintro e w' ⟨rfl,ci',fi',HW⟩)
     go_roundg (d.size-(j+1))
     case measure=>omega
     case rel=>
      obtain⟨q',os',hw⟩:=HW.out;refine⟨i+1,j+1,q',os',dk.setIfInBounds i u,by go_num,by go_num,by omega,QA _,?_,(show Aside _ from ?_)⟩
      .rw[hw,zPT enc w blk off dk HC.out.2 q' os' i (by omega)]
      .have:=I2.out.keep hlt (by rw[HK.out];show(!p d[j]!)=true;rw[C.out,hq];rfl)
       rwa [C.out]at this
    |true=>
     rw[hq]at hcall'
     go_wp2_with (go_at_fn g;refine hcall'.mono ?_;rintro e w' ⟨rfl,ci',fi',HW⟩)
     go_roundg (d.size-(j+1))
     case measure=>omega
     case rel=>
      obtain⟨q',os',hw⟩:=HW.out;exact⟨i,j+1,q',os',dk,rfl,by go_num,by omega,QA _,hw,I2.out.skip (by rw[HK.out];show(!p d[j]!)=false;rw[C.out,hq];rfl)⟩
   .obtain rfl:j=d.size:=by omega
    have hltz:¬(d.size:Int)<(d.size:Int):=by omega
    have hcl:∀ty,(Builtin.clear_ #[95] ty #[.slice (some ⟨blk,off+i,none⟩) (d.size-i) (cap-i)]).run Tryz.prog wr=.ok (.tuple #[]) (wr.setCells blk (off+i) (List.replicate (d.size-i) (enc zr))):=
     λty=>Lib.run_clear_slice wr _ _ ty _ Tryz.underlying95 v62 (hO.cells zr) (hO zr) blk (off+i) _ _ (by omega) (λt ht=>by rw[show off+i+t=off+(i+t) by omega,(hHk (i+t) (by omega)).1];rfl) (λt ht=>by rw[show off+i+t=off+(i+t) by omega];exact(hHk (i+t) (by omega)).2)
    clear hHk hI hwr
    go_wp2
    go_ret
    have hI:=I2.out;refine⟨by rw[hI.len];rfl,q,os,?_⟩
    rw[hI.len,←hI.done zr,W2.out];rw[←hzr];exact zTL enc w blk off dk HC.out.2 q os i zr d.size (by omega) (by omega)
def EqS(g:Nat)(enc:α->Value)(eqf:α->α->Bool)(blk off size:Nat)(w:World)(x y:α):Prop:=
 ∀q os (dk:Array α),dk.size=size->Calls Tryz.prog g #[enc x,enc y] (sortWorld enc w blk off q dk os) λe w'=>e=.returned (.bool (eqf x y))/\∃q' os',w'=grow ((sortWorld enc w blk off q dk os).drewN q') os'
theorem zIc(enc:α->Value)(w:World)(blk off m n:Nat)(dk:Array α)(os os':Array Obj):grow ((sortWorld enc w blk off m dk os).drewN n) os'=sortWorld enc w blk off (m+n) dk (os++os'):=by
 unfold sortWorld;show grow (grow ((putRow enc (Sort.ahead w m) blk off dk).drewN n) os) os'=_
 rw[grow_grow,putRow_drewN]
def kpE(eqf:α->α->Bool)(d:Array α)(j:Nat):Bool:=decide (j=0)||!eqf d[j]! d[j-1]!
def zPQ(eqf:α->α->Bool)(d:Array α):List α:=keptUpTo (kpE eqf d) d d.size
theorem zIF(v:Value)(p:Option Addr)(n cap:Nat)(w:World)(hn:n<2):
  Calls Tryz.prog 111 #[.slice p n cap,v] w λe w'=>e=.returned (.slice p n cap)/\w'=w:=by
 have hz:(n:Int)<2:=by omega
 go_enter Tryz.func111,Tryz.ntmps111
 go_wp2
 go_ret
 exact⟨rfl,rfl⟩
set_option maxHeartbeats 4000000 in
set_option maxRecDepth 1000000 in
theorem zMe(enc:α->Value)(hO:OneCell enc)(eqf:α->α->Bool)(g:Nat)(eg:∀args w,(callFunc g args).run Tryz.prog w=.ok (.enter g args) w)(zr:α)(hzr:enc zr=.pointer none)
  (blk off cap:Nat) (d:Array α) (w:World) (hp:∀x∈d.toList,∀y∈d.toList,EqS g enc eqf blk off d.size w x y) (hH:Holds enc w blk off d) (hblk:blk<w.heap.size) (hsz:d.size<=9223372036854775807) (uj:d.size<=cap) (h2:2<=d.size):
  Calls Tryz.prog 111 #[.slice (some ⟨blk,off,none⟩) d.size cap,.func (.func g) #[] #[]] w λe w'=>e=.returned (.slice (some ⟨blk,off,none⟩) (zPQ eqf d).length cap)/\∃q os,w'=sortWorld enc w blk off q (zPQ eqf d++List.replicate (d.size-(zPQ eqf d).length) zr).toArray os:=by
 have v62:∀w,(zeroValue 62).run Tryz.prog w=.ok (enc zr) w:=by rw[hzr];exact Tryz.zeroValue62
 have mixed:Tryz.prog.follows .mixedOrders=true:=by kernel_rfl
 have hcl0:=hO.cells;simp only[Value.cells]at hcl0;have hst:=hO.store Tryz.prog;have hall2:∀j,j<d.size->d[j]!∈d.toList:=λj hj=>by rw[getElem!_pos d j hj];simp
 have HC:Aside ((∀x∈d.toList,∀y∈d.toList,EqS g enc eqf blk off d.size w x y)/\blk<w.heap.size/\∀j,j<d.size->d[j]!∈d.toList):=⟨hp,hblk,hall2⟩;have HH:Aside (Holds enc w blk off d):=hH
 clear hp hH hblk hall2
 obtain⟨kp,HK⟩:∃kp:Nat->Bool,Hid (kp=kpE eqf d):=⟨_,rfl⟩;have hcm:zPQ eqf d=keptUpTo kp d d.size:=by rw[HK.out];rfl
 rw[hcm];have hz2:¬(d.size:Int)<2:=by omega
 go_enter Tryz.func111,Tryz.ntmps111
 go_wp2
 go_loopg [5] d.size (λgg s3 wr=>∃(k q:Nat) (os:Array Obj),1<=k/\k<=d.size/\d.size-k<=gg/\s3=.int .i64 k/\wr=sortWorld enc w blk off q d os/\Aside (∀j,j<k->kp j=true))
 case atStart=>exact⟨1,0,#[],QA _,by omega,by omega,rfl,by rw[zML enc w blk off d HH.out,grow_empty];rfl,λj hj=>by rw[HK.out,show j=0 from(by omega)];rfl⟩
 case round=>
  obtain⟨k,q,os,hk1,hk,hgg,rfl,hwr,A⟩:=hrel;have hHk:∀m os2,Holds enc (grow (wr.drewN m) os2) blk off d:=λm os2=>by rw[hwr,zIc];exact zF0 enc w blk off d d HH.out HC.out.2.1 rfl _ _
  by_cases hlt:k<d.size
  .have hltz:(k:Int)<(d.size:Int):=by omega
   obtain⟨kp1,hkp⟩:∃q,q=k-1:=⟨_,rfl⟩;have ra:IntKind.i64.wrap ((k:Int)-1)=(kp1:Int):=by rw[IntKind.wrap_i64];omega
   have c1:∀m os2,(grow (wr.drewN m) os2).cell? ⟨blk,off+k,none⟩=some (enc d[k]!):=λm os2=>(hHk m os2 k hlt).1
   have c0:∀m os2,(grow (wr.drewN m) os2).cell? ⟨blk,off+kp1,none⟩=some (enc d[k-1]!):=λm os2=>by rw[hkp];exact(hHk m os2 (k-1) (by omega)).1
   have bp:(kp1:Int)<(d.size:Int):=by omega
   have hcall:∀m os2,Calls Tryz.prog g #[enc d[k]!,enc d[k-1]!] (grow (wr.drewN m) os2) λe w'=>e=.returned (.bool (eqf d[k]! d[k-1]!))/\∃q' os',w'=grow ((grow (wr.drewN m) os2).drewN q') os':=λm os2=>by
    have:=HC.out.1 d[k]! (HC.out.2.2 k hlt) d[k-1]! (HC.out.2.2 (k-1) (by omega)) (q+m) (os++os2) d rfl
    rw[←zIc,←hwr]at this;exact this
   generalize hx:d[k]! = x at c1 hcall;generalize hy:d[k-1]! = y at c0 hcall;have B:Aside (d[k]! = x/\d[k-1]! = y/\wr=sortWorld enc w blk off q d os):=⟨hx,hy,hwr⟩
   clear hx hy hHk hwr hkp
   cases hq:eqf x y with
   |true=>
    rw[hq]at hcall
    go_wp2_with fail
    go_quiet_grown (first|(go_at_fn g;refine Calls.grown_of (hcall _ _)))
    have S2:Aside (grow (wr.drewN nq) osq=sortWorld enc w blk off (q+nq) d (os++osq)):=by rw[B.out.2.2,zIc];rfl
    clear c0 c1 hcall
    generalize grow (wr.drewN nq) osq=w2 at S2⊢
    go_wp2
    go_loopg [5,7] d.size (λgg s3 s5 wr=>∃(kk k2 q2:Nat) (os2:Array Obj) (dk:Array α),s3=.int .i64 kk/\s5=.int .i64 k2/\1<=k2/\k+k2<=d.size/\d.size-(k+k2)<=gg/\wr=sortWorld enc w blk off q2 dk os2/\Aside (KeptInv kp d (k+k2) kk dk))
    case atStart=>exact⟨k,1,q+nq,os++osq,d,rfl,rfl,QA _,by omega,by omega,S2.out,KeptInv.start A.out (by rw[HK.out];show(decide (k=0)||!eqf d[k]! d[k-1]!)=false;rw[B.out.1,B.out.2.1,hq];simp;omega)⟩
    case round=>
     obtain⟨kk,k2,q2,os2,dk,rfl,rfl,h1,hle,hg2,hwr2,I2⟩:=hrel;have hI:=I2.out;have hkk:=hI.lt;have hds:=hI.size;have hHk:∀m os3,Holds enc (grow (wr.drewN m) os3) blk off dk:=λm os3=>by rw[hwr2,zIc];exact zF0 enc w blk off d dk HH.out HC.out.2.1 hds _ _
     have hH0:Holds enc wr blk off dk:=by rw[hwr2];exact zF0 enc w blk off d dk HH.out HC.out.2.1 hds _ _
     have W2:Aside (wr=sortWorld enc w blk off q2 dk os2):=hwr2;by_cases hlt2:k+k2<d.size
     .have hltz2:(k2:Int)<(d.size:Int)-(k:Int):=by omega
      have hltn2:k2<d.size-k:=by omega
      obtain⟨kp2,hkp2⟩:∃q,q=k2-1:=⟨_,rfl⟩;have ra2:IntKind.i64.wrap ((k2:Int)-1)=(kp2:Int):=by rw[IntKind.wrap_i64];omega
      have bp2:(kp2:Int)<(d.size:Int)-(k:Int):=by omega
      have bpn2:kp2<d.size-k:=by omega
      have hkd2:k2+k<9223372036854775808:=by omega
      have cm:∀m os3,(grow (wr.drewN m) os3).cell? ⟨blk,off+k+k2,none⟩=some (enc d[k+k2]!):=λm os3=>by
       rw[←hI.high (k+k2) (by omega),←(hHk m os3 (k+k2) (by omega)).1,Nat.add_assoc]
      have cp:∀m os3,(grow (wr.drewN m) os3).cell? ⟨blk,off+k+kp2,none⟩=some (enc d[k+k2-1]!):=λm os3=>by
       rw[←hI.high (k+k2-1) (by omega),←(hHk m os3 (k+k2-1) (by omega)).1,hkp2,show off+(k+k2-1)=off+k+(k2-1) by omega]
      have hcall:∀m os3,Calls Tryz.prog g #[enc d[k+k2]!,enc d[k+k2-1]!] (grow (wr.drewN m) os3) λe w'=>e=.returned (.bool (eqf d[k+k2]! d[k+k2-1]!))/\∃q' os',w'=grow ((grow (wr.drewN m) os3).drewN q') os':=λm os3=>by
       have:=HC.out.1 d[k+k2]! (HC.out.2.2 _ hlt2) d[k+k2-1]! (HC.out.2.2 (k+k2-1) (by omega)) (q2+m) (os2++os3) dk hds
       rw[←zIc,←hwr2]at this;exact this
      clear hHk hH0 hI hwr2 hkp2
      generalize hu:d[k+k2]! = u at cm hcall;generalize hv:d[k+k2-1]! = v at cp hcall;have C:Aside (d[k+k2]! = u/\d[k+k2-1]! = v):=⟨hu,hv⟩
      clear hu hv
      cases hq2:eqf u v with
      |true=>
       rw[hq2]at hcall
       go_wp2_with fail
       go_quiet_grown (first|(go_at_fn g;refine Calls.grown_of (hcall _ _)))
       have S3:Aside (grow (wr.drewN nq) osq=sortWorld enc w blk off (q2+nq) dk (os2++osq)):=by rw[W2.out,zIc];rfl
       clear cm cp hcall
       go_wp2
       go_roundg (d.size-(k+(k2+1)))
       case measure=>omega
       case rel=>
        exact⟨kk,k2+1,_,_,dk,rfl,by go_num,by omega,by omega,QA _,S3.out,I2.out.skip (by rw[HK.out];show(decide (k+k2=0)||!eqf d[k+k2]! d[k+k2-1]!)=false;rw[C.out.1,C.out.2,hq2];simp;omega)⟩
      |false=>
       rw[hq2]at hcall
       go_wp2_with fail
       go_quiet_grown (first|(go_at_fn g;refine Calls.grown_of (hcall _ _)))
       have S3:Aside (grow (wr.drewN nq) osq=sortWorld enc w blk off (q2+nq) dk (os2++osq)):=by rw[W2.out,zIc];rfl
       have cm2:=cm nq osq;have t1:Holds enc (grow (wr.drewN nq) osq) blk off dk:=by rw[S3.out];exact zF0 enc w blk off d dk HH.out HC.out.2.1 hds _ _
       obtain⟨ck,fk⟩:=t1 kk (by omega)
       clear cm cp hcall t1
       generalize grow (wr.drewN nq) osq=w2 at S3 cm2 ck fk⊢;generalize dk[kk]! = wh at ck
       go_wp2
       go_roundg (d.size-(k+(k2+1)))
       case measure=>omega
       case rel=>
        refine⟨kk+1,k2+1,q2+nq,os2++osq,dk.setIfInBounds kk u,by go_num,by go_num,by omega,by omega,QA _,?_,(show Aside _ from ?_)⟩
        .rw[S3.out,zPT enc w blk off dk HC.out.2.1 _ _ kk (by omega)]
        .have:=I2.out.keep hlt2 (by rw[HK.out];show(decide (k+k2=0)||!eqf d[k+k2]! d[k+k2-1]!)=true;rw[C.out.1,C.out.2,hq2];simp)
         rwa [C.out.1]at this
     .have hend:k+k2=d.size:=by omega
      have hltz2:¬(k2:Int)<(d.size:Int)-(k:Int):=by omega
      have hcl:∀ty,(Builtin.clear_ #[95] ty #[.slice (some ⟨blk,off+kk,none⟩) (d.size-kk) (cap-kk)]).run Tryz.prog wr=.ok (.tuple #[]) (wr.setCells blk (off+kk) (List.replicate (d.size-kk) (enc zr))):=
       λty=>Lib.run_clear_slice wr _ _ ty _ Tryz.underlying95 v62 (hO.cells zr) (hO zr) blk (off+kk) _ _ (by omega) (λt ht=>by rw[show off+kk+t=off+(kk+t) by omega,(hH0 (kk+t) (by omega)).1];rfl) (λt ht=>by rw[show off+kk+t=off+(kk+t) by omega];exact(hH0 (kk+t) (by omega)).2)
      clear hHk hH0 hI hwr2
      go_wp2
      go_ret
      have hI:=I2.out;rw[hend]at hI;refine⟨by rw[hI.len];rfl,q2,os2,?_⟩
      rw[hI.len,←hI.done zr,W2.out];rw[←hzr];exact zTL enc w blk off dk HC.out.2.1 q2 os2 kk zr d.size (by omega) (by omega)
   |false=>
    rw[hq]at hcall
    go_wp2_with fail
    go_quiet_grown (first|(go_at_fn g;refine Calls.grown_of (hcall _ _)))
    have S2:Aside (grow (wr.drewN nq) osq=sortWorld enc w blk off (q+nq) d (os++osq)):=by rw[B.out.2.2,zIc];rfl
    clear c0 c1 hcall
    go_wp2
    go_roundg (d.size-(k+1))
    case measure=>omega
    case rel=>
     refine⟨k+1,q+nq,os++osq,by omega,by omega,QA _,by go_num,S2.out,(show Aside _ from λj hj=>?_)⟩
     by_cases e:j=k
     .subst e;rw[HK.out];show(decide (j=0)||!eqf d[j]! d[j-1]!)=true;rw[B.out.1,B.out.2.1,hq];simp
     .exact A.out j (by omega)
  .have hend:k=d.size:=by omega
   subst hend;have hltz:¬(d.size:Int)<(d.size:Int):=by omega
   clear hHk
   go_wp2
   go_ret
   have e3:keptUpTo kp d d.size=d.toList:=by rw[keptUpTo_all kp d _ A.out,range_map_get]
   rw[e3];refine⟨by simp,q,os,?_⟩
   simp only[Array.length_toList,Nat.sub_self,List.replicate_zero,List.append_nil,Array.toArray_toList]
end Go.Proofs.YtcolommdbibghaaGreatDoor
namespace Go.Proofs.YtcolommdbibghaaGreatDoor.canon
open Go Go.Sy Go.RowKit
noncomputable def G0:Cx:=zLL
theorem zPU(k:IntKind)(zs:List Int):PP (.qc (.agg (zs.map λz=>.int k z)) 0):=.qc _ _ (.agg _ λx hx=>by
 obtain⟨z,_,rfl⟩:=QL.1 hx;exact .int _ _)
theorem zR2(t:Nat)(s:JV):PP (.qc (.agg [.iface t (.qc (.agg [.str s]) 0)]) 0):=.qc _ _ (.agg _ λx hx=>by
 rw[QY.1 hx];exact .iface _ _ (.qc _ _ (.agg _ λy hy=>by rw[QY.1 hy];exact .str _)))
theorem zWG:zMJ=zPv.map λz=>.int .u8 z:=by kernel_rfl
theorem zWH:zMK=zPw.map λz=>.int .u8 z:=by kernel_rfl
theorem zWI:zIV=zPx.map λz=>.int .u64 z:=by kernel_rfl
theorem zMN:GPP G0:=λg v h=>by
 have h:zLL.vz g=some v:=h;simp only[zLL]at h;split at h
 .cases h;rw[zWG];exact zPU _ _
 split at h
 .cases h;rw[zWH];exact zPU _ _
 split at h
 .cases h;rw[zWI];exact zPU _ _
 split at h
 .cases h;exact zR2 _ _
 split at h
 .cases h;exact zR2 _ _
 cases h
theorem zWJ:zAr Tryz.prog G0:=zSQ
theorem mix:Tryz.prog.follows .mixedOrders=true:=mixed
theorem zZD:zIV=Lib.pow10Tab.map λz=>.int .u64 z:=by kernel_rfl
noncomputable def zFg:JE->JF:=fmtG
theorem zHq:zCd Tryz.prog G0 58 zFg:=by
 have hbo:Tryz.f58.body.isSome=true:=by kernel_rfl
 obtain⟨body,hbo⟩:=Option.isSome_iff_exists.1 hbo;refine zX3 (g:=3) Tryz.func58 hbo (by kernel_rfl) (by kernel_rfl) ?_ λn h0 h1 w ht=>Tryz.strconv_FormatInt_10 n h0 h1 w ht
 show some (AV.qc (.agg zIV) 0)=_
 rw[zZD]
noncomputable def zFh:JE->JF:=zWm
theorem zHr:zCd Tryz.prog G0 148 zFh:=by
 have hbo:Tryz.f148.body.isSome=true:=by kernel_rfl
 obtain⟨body,hbo⟩:=Option.isSome_iff_exists.1 hbo;exact zX2 Tryz.func148 hbo (by kernel_rfl) λs c w=>Tryz.strings_IndexByte s c w
noncomputable def zB4:JE->JF:=zNN 157 (.iface 198 (.qc (.agg [.str [105,110,118,97,108,105,100,32,115,121,110,116,97,120]]) 0)) (.iface 198 (.qc (.agg [.str [118,97,108,117,101,32,111,117,116,32,111,102,32,114,97,110,103,101]]) 0))
theorem zH7:zCd Tryz.prog G0 123 zB4:=by
 have hbo:Tryz.f123.body.isSome=true:=by kernel_rfl
 obtain⟨body,hbo⟩:=Option.isSome_iff_exists.1 hbo;refine zVZ (gs:=1) (gr:=2) (ty:=175) Tryz.func123 hbo (by kernel_rfl) zMN rfl rfl (λs hmax v h w=>(Tryz.strconv_ParseInt_10_at64_ok s hmax v h w).mono λe w' h=>⟨h.1,?_⟩) (λs hlim h h' ev w hv hev=>Any.strconv_ParseInt_10_at64_syntax Tryz.laysC174 s hlim (by
  revert h h'
  cases Lib.parseIntB 64 s.data.toList with
  |ok v=>exact λh _=>absurd rfl (h v)
  |range=>exact λ_ h=>absurd rfl h
  |_=>exact λ_ _=>rfl) ev w hv hev) λs hlim h ev w hv hev=>Tryz.strconv_ParseInt_10_at64_range s hlim h ev w hv hev
 rcases h.2 with rfl|⟨t,rfl⟩
 .exact Below.refl _ _
 .exact Lib.bytesWorld_below _ _ _
noncomputable def t0:Tb Tryz.prog G0:=Tb.nil
end Go.Proofs.YtcolommdbibghaaGreatDoor.canon
namespace Go.Proofs.YtcolommdbibghaaGreatDoor.canon
open Go Go.Sy Go.Sort
theorem zLl:∀s:JV,slt s s=false
 |[]=>rfl
 |a::x=>by
  have h1:Nat.blt a a=false:=Bool.eq_false_iff.2 λh=>absurd (QN h) (Nat.not_succ_le_self a)
  have h2:Nat.beq a a=true:=Nat.beq_refl a;simp only[slt,h1,h2,zLl x]
theorem zMf{a b:Nat}{x y:JV}:slt (a::x) (b::y)=true↔a<b\/a=b/\slt x y=true:=by
 simp only[slt];cases h1:Nat.blt a b with
 |true=>
  have:a<b:=by simpa[Qg]using h1
  simp[this]
 |false=>
  have h1:¬a<b:=λh=>by rw[show Nat.blt a b=true from Nat.ble_eq_true_of_le h]at h1;cases h1
  cases h2:Nat.beq a b with
  |true=>have:=Nat.eq_of_beq_eq_true h2;simp[this]
  |false=>have:=Nat.ne_of_beq_eq_false h2;simp[h1,this]
theorem zGy:∀s t u:JV,slt s t=true->slt t u=true->slt s u=true
 |[],[],_,h,_=>by cases h
 |[],b::y,[],_,h=>by simp[slt]at h
 |[],b::y,c::z,_,_=>rfl
 |a::x,[],_,h,_=>by simp[slt]at h
 |a::x,b::y,[],_,h=>by simp[slt]at h
 |a::x,b::y,c::z,h,k=>by
  rw[zMf]at h k⊢;rcases h with h|⟨rfl,h⟩<;>rcases k with k|⟨rfl,k⟩
  .exact .inl (by omega)
  .exact .inl h
  .exact .inl k
  .exact .inr ⟨rfl,zGy x y z h k⟩
theorem zNW:∀s t:JV,slt s t=true\/s=t\/slt t s=true
 |[],[]=>.inr (.inl rfl)
 |[],b::y=>.inl rfl
 |a::x,[]=>.inr (.inr rfl)
 |a::x,b::y=>by
  rw[zMf,zMf];rcases Nat.lt_trichotomy a b with h|rfl|h
  .exact .inl (.inl h)
  .rcases zNW x y with h|rfl|h
   .exact .inl (.inr ⟨rfl,h⟩)
   .exact .inr (.inl rfl)
   .exact .inr (.inr (.inr ⟨rfl,h⟩))
  .exact .inr (.inr (.inl h))
theorem zPV{s t:JV}(h:slt s t=false)(k:slt t s=false):s=t:=by
 rcases zNW s t with h1|h1|h1
 .rw[h]at h1;cases h1
 .exact h1
 .rw[k]at h1;cases h1
theorem zR3:SWO slt:=⟨zLl,zGy,λx y z h k=>by
 cases hc:slt x z with
 |false=>rfl
 |true=>
  exfalso
  rcases zNW y x with h1|rfl|h1
  .have:=zGy _ _ _ h1 hc;rw[k]at this;cases this
  .rw[k]at hc;cases hc
  .rw[h]at h1;cases h1⟩
def zIS(s t:JV):Int:=if slt s t=true then Int.negSucc 0 else if !(slt s t||seqb s t)then 1 else 0
theorem zR4(s t:JV):decide (zIS s t<0)=slt s t:=by
 unfold zIS;cases h:slt s t with
 |true=>simp
 |false=>cases seqb s t<;>simp
theorem zPW:(λs t=>decide (zIS s t<0))=slt:=by funext s t;exact zR4 s t
end Go.Proofs.YtcolommdbibghaaGreatDoor.canon
