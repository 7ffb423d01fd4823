/- THE LAW'S BASE: the package variables that it reads, and what Go's library gives. No condition. -/
import Derived.Test.YtfiahaglhiijaaaGreatDoorFxF
import Derived.Test.YtfiahaglhiijaaaGreatDoorChecked
import Derived.WalkKit
import Derived.Lib.SmallJoins
import Derived.Test.YtfiahaglhiijaaaGreatDoorShelf
import Derived.Lib.Walk
import Derived.Sort.Grow
import Derived.Handy
import Derived.Deep.RegionHeld3
import Derived.WalkSmall
import Derived.Deep.Draws
import Derived.WalkKit
set_option linter.unusedVariables false
set_option linter.unusedSimpArgs false
namespace Go.Proofs.YtfiahaglhiijaaaGreatDoor.score
open Go.Sy
theorem own:ownKnob Tryz.prog.godebug=none:=by kernel_rfl
theorem mixed:Tryz.prog.follows .mixedOrders=true:=by kernel_rfl
noncomputable def zWR:List Int:=[0,1,28,2,29,14,24,3,30,22,20,15,25,17,4,8,31,27,13,23,21,19,16,7,26,12,18,6,11,5,10,9]
noncomputable def zUA:JE:=zWR.map λz=>.int .u8 z
noncomputable def zWS:List Int:=[0,1,56,2,57,49,28,3,61,58,42,50,38,29,17,4,62,47,59,36,45,43,51,22,53,39,33,30,24,18,12,5,63,55,48,27,60,41,37,16,46,35,44,21,52,32,23,11,54,26,40,15,34,20,31,10,25,14,19,9,13,8,7,6]
noncomputable def zUB:JE:=zWS.map λz=>.int .u8 z
noncomputable def zWT:List Int:=[1,10,100,1000,10000,100000,1000000,10000000,100000000,1000000000,10000000000,100000000000,1000000000000,10000000000000,100000000000000,1000000000000000,10000000000000000,100000000000000000,1000000000000000000,10000000000000000000]
noncomputable def zPm:JE:=zWT.map λz=>.int .u64 z
noncomputable def zOQ:Cx:=⟨λn=>match Nat.beq n 4 with
 |true=>some (.qd (.agg zUA) 0)
 |false=>match Nat.beq n 5 with
 |true=>some (.qd (.agg zUB) 0)
 |false=>match Nat.beq n 0 with
 |true=>some (.qd (.agg zPm) 0)
 |false=>match Nat.beq n 2 with
 |true=>some (.qd (.agg [.iface 212 (.qd (.agg [.str [118,97,108,117,101,32,111,117,116,32,111,102,32,114,97,110,103,101]]) 0)]) 0)
 |false=>match Nat.beq n 1 with
 |true=>some (.qd (.agg [.iface 212 (.qd (.agg [.str [105,110,118,97,108,105,100,32,115,121,110,116,97,120]]) 0)]) 0)
 |false=>none,λ_ _=>none⟩
theorem zal:zCa Tryz.prog zOQ:=λ_ _ _ h=>by cases h
theorem zam:zUe zOQ:=λg v h=>by
 simp only[zOQ]at h;split at h
 .cases h;kernel_rfl
 split at h
 .cases h;kernel_rfl
 split at h
 .cases h;kernel_rfl
 split at h
 .cases h;kernel_rfl
 split at h
 .cases h;kernel_rfl
 cases h
theorem zgC {l:List (String×DataW Unit)} {W:World} {σ:Nat->Value} (hL:laidMet Tryz.prog l W) (hm:("math/bits.deBruijn32tab",Lib.tabData .u8 zWR)∈l):VR (Env.still W σ) W (.qd (.agg zUA) 0) (.pointer (some ⟨4,0,none⟩))/\zH9 W 4 (.qd (.agg zUA) 0):=by
 exact zTd hL hm (by kernel_rfl) (t:=215) (e:=5) (len:=32) (by kernel_rfl) (by kernel_rfl) (by kernel_rfl) (by kernel_rfl) (by kernel_rfl) (by kernel_rfl)
theorem zgD {l:List (String×DataW Unit)} {W:World} {σ:Nat->Value} (hL:laidMet Tryz.prog l W) (hm:("math/bits.deBruijn64tab",Lib.tabData .u8 zWS)∈l):VR (Env.still W σ) W (.qd (.agg zUB) 0) (.pointer (some ⟨5,0,none⟩))/\zH9 W 5 (.qd (.agg zUB) 0):=by
 exact zTd hL hm (by kernel_rfl) (t:=216) (e:=5) (len:=64) (by kernel_rfl) (by kernel_rfl) (by kernel_rfl) (by kernel_rfl) (by kernel_rfl) (by kernel_rfl)
theorem zgE {l:List (String×DataW Unit)} {W:World} {σ:Nat->Value} (hL:laidMet Tryz.prog l W) (hm:("internal/strconv.uint64pow10",Lib.tabData .u64 zWT)∈l):VR (Env.still W σ) W (.qd (.agg zPm) 0) (.pointer (some ⟨0,0,none⟩))/\zH9 W 0 (.qd (.agg zPm) 0):=by
 exact zTd hL hm (by kernel_rfl) (t:=199) (e:=156) (len:=20) (by kernel_rfl) (by kernel_rfl) (by kernel_rfl) (by kernel_rfl) (by kernel_rfl) (by kernel_rfl)
theorem star : "*" ++ "errors.errorString" = "*errors.errorString":=by decide
theorem zbI (u:TypeId) (h:Tryz.prog.typeName? 3 u=some "*errors.errorString"):u=212:=
 typeName_ptr_named (nm := "errors.errorString") (by rw[star];kernel_rfl) (by kernel_rfl) (by decide) u (by rw[star];exact h)
theorem zgF {l:List (String×DataW Unit)} {W:World} {σ:Nat->Value} (hL:laidMet Tryz.prog l W) (hm:("strconv.ErrRange",(.iface "*errors.errorString" (.ptr (.agg [.lit (.string [118,97,108,117,101,32,111,117,116,32,111,102,32,114,97,110,103,101])])):DataW Unit))∈l):
  VR (Env.still W σ) W (.qd (.agg [.iface 212 (.qd (.agg [.str [118,97,108,117,101,32,111,117,116,32,111,102,32,114,97,110,103,101]]) 0)]) 0) (.pointer (some ⟨2,0,none⟩))/\zH9 W 2 (.qd (.agg [.iface 212 (.qd (.agg [.str [118,97,108,117,101,32,111,117,116,32,111,102,32,114,97,110,103,101]]) 0)]) 0):=
 zVY hL hm (by kernel_rfl) (by kernel_rfl) Tryz.underlying167 zbI Tryz.underlying212 Tryz.underlying214 rfl rfl Tryz.underlying9 (by kernel_rfl) (by kernel_rfl)
theorem zgG {l:List (String×DataW Unit)} {W:World} {σ:Nat->Value} (hL:laidMet Tryz.prog l W) (hm:("strconv.ErrSyntax",(.iface "*errors.errorString" (.ptr (.agg [.lit (.string [105,110,118,97,108,105,100,32,115,121,110,116,97,120])])):DataW Unit))∈l):
  VR (Env.still W σ) W (.qd (.agg [.iface 212 (.qd (.agg [.str [105,110,118,97,108,105,100,32,115,121,110,116,97,120]]) 0)]) 0) (.pointer (some ⟨1,0,none⟩))/\zH9 W 1 (.qd (.agg [.iface 212 (.qd (.agg [.str [105,110,118,97,108,105,100,32,115,121,110,116,97,120]]) 0)]) 0):=
 zVY hL hm (by kernel_rfl) (by kernel_rfl) Tryz.underlying167 zbI Tryz.underlying212 Tryz.underlying214 rfl rfl Tryz.underlying9 (by kernel_rfl) (by kernel_rfl)
theorem zhO {l:List (String×DataW Unit)} {W:World} {σ:Nat->Value} (hL:laidMet Tryz.prog l W) (h4:("math/bits.deBruijn32tab",Lib.tabData .u8 zWR)∈l) (h5:("math/bits.deBruijn64tab",Lib.tabData .u8 zWS)∈l) (h0:("internal/strconv.uint64pow10",Lib.tabData .u64 zWT)∈l) (h7:("strconv.ErrRange",(.iface "*errors.errorString" (.ptr (.agg [.lit (.string [118,97,108,117,101,32,111,117,116,32,111,102,32,114,97,110,103,101])])):DataW Unit))∈l) (h6:("strconv.ErrSyntax",(.iface "*errors.errorString" (.ptr (.agg [.lit (.string [105,110,118,97,108,105,100,32,115,121,110,116,97,120])])):DataW Unit))∈l):GR zOQ (Env.still W σ) W:=λg v h=>by
 simp only[zOQ]at h;split at h
 .rename_i hb;cases h;rw[Nat.eq_of_beq_eq_true hb];exact zgC hL h4
 split at h
 .rename_i hb;cases h;rw[Nat.eq_of_beq_eq_true hb];exact zgD hL h5
 split at h
 .rename_i hb;cases h;rw[Nat.eq_of_beq_eq_true hb];exact zgE hL h0
 split at h
 .rename_i hb;cases h;rw[Nat.eq_of_beq_eq_true hb];exact zgF hL h7
 split at h
 .rename_i hb;cases h;rw[Nat.eq_of_beq_eq_true hb];exact zgG hL h6
 cases h
end Go.Proofs.YtfiahaglhiijaaaGreatDoor.score
namespace Go.Proofs.YtfiahaglhiijaaaGreatDoor.score
open Go Go.Shelf Go.RowKit Go.Lib Go.Sort
set_option maxRecDepth 100000 in
theorem zWk(s:ByteArray)(w:World):Calls Tryz.prog 81 #[.string s] w λe w'=>e=.returned (.bool false)/\w'=w:=by
 go_enter Tryz.func81,Tryz.ntmps81
 go_wp2
 go_ret
 exact⟨rfl,rfl⟩
@[simp] theorem zgs(P:Program)(w:World)(s u:ByteArray)(t:TypeId):(binOp .gtr t (.string s) (.string u)).run P w=.ok (.bool !(Op.bytesLess s.toList u.toList||s.toList==u.toList)) w:=by
 simp[binOp,Op.stringOp]
def zPn(s t:ByteArray):Int:=if Op.bytesLess s.toList t.toList then -1 else if s.toList==t.toList then 0 else 1
set_option maxRecDepth 100000 in
theorem zYR(s t:ByteArray)(w:World):Calls Tryz.prog 49 #[.string s,.string t] w λe w'=>e=.returned (.int .i64 (zPn s t))/\w'=w:=by
 have h1:=λW=>zWk s W
 have h2:=λW=>zWk t W
 go_enter Tryz.func49,Tryz.ntmps49
 go_wp2_with (go_at_call 81;first|(refine(h1 _).mono ?_;rintro e w' ⟨rfl,rfl⟩)|(refine(h2 _).mono ?_;rintro e w' ⟨rfl,rfl⟩))
 all_goals go_ret
 all_goals refine⟨?_,rfl⟩
 all_goals simp_all[zPn]
def zWU(x y:Int):Int:=if x=0 then y else x
set_option maxRecDepth 100000 in
theorem zfY(b:Nat)(x y:Int)(w:World)(h0:w.cell? ⟨b,0,none⟩=some (.int .i64 x))(h1:w.cell? ⟨b,1,none⟩=some (.int .i64 y)):Calls Tryz.prog 47 #[.slice (some ⟨b,0,none⟩) 2 2] w λe w'=>e=.returned (.int .i64 (zWU x y))/\w'=w:=by
 go_enter Tryz.func47,Tryz.ntmps47
 go_wp2
 go_rounds 3
 all_goals go_ret
 all_goals refine⟨?_,rfl⟩
 all_goals simp_all[zWU]
abbrev Rk:=Int×Int×ByteArray
def zWV(x y:Rk):Int:=zWU (Lib.compareInt y.2.1 x.2.1) (zPn x.2.2 y.2.2)
theorem new3(W:World)(a b:Obj)(cs:Array Value)(t:TypeId)(i:Nat):(((W.alloc a).alloc b).alloc (.cells cs t)).drew.cell? ⟨W.heap.size+1+1,i,none⟩=cs[i]?:=by
 have:(((W.alloc a).alloc b).alloc (.cells cs t)).drew.heap[W.heap.size+1+1]?=some (.cells cs t (0,0)):=by
  show(((W.heap.push a).push b).push (.cells cs t (0,0)))[W.heap.size+1+1]? = _
  rw[Array.getElem?_push,if_pos (by simp)]
 simp only[World.cell?,this,QY];simp
set_option maxHeartbeats 2000000 in
set_option maxRecDepth 100000 in
theorem zbJ(x y:Rk)(W:World):Calls Tryz.prog 46 #[.agg #[.int .i64 x.1,.int .i64 x.2.1,.string x.2.2],.agg #[.int .i64 y.1,.int .i64 y.2.1,.string y.2.2]] W λe w'=>e=.returned (.int .i64 (zWV x y))/\∃q os',w'=grow (W.drewN q) os':=by
 have mixed:Tryz.prog.follows .mixedOrders=true:=by kernel_rfl
 have hcon:=λW'=>AnyG.cmp_Compare_int Tryz.cmpInt y.2.1 x.2.1 W'
 change ∀W',Calls Tryz.prog 48 _ _ _ at hcon;have hstr:=λW'=>zYR x.2.2 y.2.2 W'
 have um:=λb W'=>zfY b (Lib.compareInt y.2.1 x.2.1) (zPn x.2.2 y.2.2) W'
 unfold zWV;generalize Lib.compareInt y.2.1 x.2.1=r at hcon um⊢;generalize zPn x.2.2 y.2.2=r2 at hstr um⊢
 go_enter Tryz.func46,Tryz.ntmps46
 go_wp2
 go_region_held3 (λw'=>w'.cell? ⟨W.heap.size,1,none⟩=some (.int .i64 x.2.1)/\w'.cell? ⟨W.heap.size,2,none⟩=some (.string x.2.2)/\w'.cell? ⟨W.heap.size+1,1,none⟩=some (.int .i64 y.2.1)/\w'.cell? ⟨W.heap.size+1,2,none⟩=some (.string y.2.2)) (go_keep)
  (first|(go_at_call 48;refine(hcon _).mono ?_;rintro e w' ⟨rfl,rfl⟩)|(go_at_call 49;refine(hstr _).mono ?_;rintro e w' ⟨rfl,rfl⟩)|(go_at_call 47;refine(um _ _ (new3 ..) (new3 ..)).mono ?_;rintro e w' ⟨rfl,rfl⟩))
 go_wp2
 go_ret
 exact⟨rfl,1,_,by rw[alloc_eq_grow,alloc_eq_grow,alloc_eq_grow,grow_grow,grow_grow];rfl⟩
end Go.Proofs.YtfiahaglhiijaaaGreatDoor.score
namespace Go.Proofs.YtfiahaglhiijaaaGreatDoor.score
open Go Go.Sy
abbrev Rn:=Int×Int×List UInt8
def ltN(x y:Rn):Bool:=decide (y.2.1<x.2.1)||(decide (x.2.1=y.2.1)&&Op.bytesLess x.2.2 y.2.2)
def zWW:JE->Option Rn
 |[.int .i64 i,.int .i64 s,.str l]=>match l.all λn=>Nat.blt n 256 with
  |true=>some (i,s,l.map UInt8.ofNat)
  |false=>none
 |_=>none
theorem zOF{l:JV}(h:(l.all λn=>Nat.blt n 256)=true):(l.map UInt8.ofNat).map UInt8.toNat=l:=by
 rw[List.map_map];refine(List.map_congr_left λn hn=>?_).trans (List.map_id _)
 have:=QD.1 h n hn;rw[Ql]at this;simp only[Function.comp,id];exact UInt8.toNat_ofNat_of_lt' this
theorem toNat_inj{a b:List UInt8}(h:a.map UInt8.toNat=b.map UInt8.toNat):a=b:=by
 induction a generalizing b with
 |nil=>cases b with
  |nil=>rfl
  |cons y b=>cases h
 |cons x a ih=>cases b with
  |nil=>cases h
  |cons y b=>
   rw[Qe,Qe]at h;have h1:=(List.cons.inj h).1;rw[ih (List.cons.inj h).2,UInt8.toNat_inj.1 h1]
def zA9:Cod Rn 3 where
 av x:=[.int .i64 x.1,.int .i64 x.2.1,.str (x.2.2.map UInt8.toNat)]
 enc x:=[.int .i64 x.1,.int .i64 x.2.1,.string ⟨x.2.2.toArray⟩]
 dec:=zWW
 k0:=by decide
 ug _:=rfl
 ux _:=rfl
 pp x a h:=by
  simp only[QH,List.not_mem_nil,or_false]at h;rcases h with rfl|rfl|rfl
  .exact .int _ _
  .exact .int _ _
  .exact .str _
 uY {l x} h:=by
  unfold zWW at h;split at h
  .split at h
   .rename_i hb;cases h;show _=[_,_,AV.str _]
    rw[zOF hb]
   .cases h
  .cases h
 back {E w vs x} _ h:=by
  obtain⟨h1,h2⟩:=h
  match vs,h1 with
  |[a,b,c],_=>
   have ha:=h2 0 _ _ rfl rfl;have hb:=h2 1 _ _ rfl rfl;have hc:=h2 2 _ _ rfl rfl;cases ha;cases hb;cases hc with
   |str l s h hl=>
    have:=toNat_inj h;obtain⟨⟨sl⟩⟩:=s;have e:sl=x.2.2:=this;rw[e]
theorem zNQ(x y:Rn):ltN x y=true↔y.2.1<x.2.1\/(x.2.1=y.2.1/\Op.bytesLess x.2.2 y.2.2=true):=by
 simp[ltN]
theorem zLu:∀(x y:List UInt8),Op.bytesLess x y=decide (x<y)
 |[],[]=>by simp[Op.bytesLess]
 |_::_,[]=>by simp[Op.bytesLess]
 |[],_::_=>by simp[Op.bytesLess]
 |a::x,b::y=>by
  rw[Op.bytesLess,zLu x y];simp only[List.cons_lt_cons_iff];by_cases h1:a<b<;>by_cases h2:a=b<;>by_cases h3:x<y<;>simp[h1,h2,h3]
noncomputable def zKC:JE->Heap->Vecs->Option (AV×Heap×Vecs):=zUy zA9 46 ltN
theorem zYv:Go.Sort.SWO ltN where
 irrefl x:=by
  cases e:ltN x x with
  |false=>rfl
  |true=>
   rw[zNQ,zLu,decide_eq_true_iff]at e;rcases e with h|⟨_,h⟩
   .omega
   .exact absurd h (List.lt_irrefl _)
 trans x y z h1 h2:=by
  rw[zNQ,zLu,decide_eq_true_iff]at *;rcases h1 with h1|⟨h1,h1'⟩<;>rcases h2 with h2|⟨h2,h2'⟩
  .exact .inl (by omega)
  .exact .inl (by omega)
  .exact .inl (by omega)
  .exact .inr ⟨by omega,List.lt_trans h1' h2'⟩
 ntrans x y z h1 h2:=by
  have f:∀a b,ltN a b=false↔¬(b.2.1<a.2.1\/(a.2.1=b.2.1/\a.2.2<b.2.2)):=λa b=>by
   have:=zNQ a b;rw[zLu,decide_eq_true_iff]at this;rw[←this];cases ltN a b<;>simp
  rw[f]at *;intro h;rcases h with h|⟨h,h'⟩
  .omega
  .have e1:¬y.2.1<x.2.1:=λe=>h1 (.inl e)
   have e2:¬z.2.1<y.2.1:=λe=>h2 (.inl e)
   have e3:x.2.1=y.2.1:=by omega
   have n1:¬x.2.2<y.2.2:=λe=>h1 (.inr ⟨e3,e⟩)
   have n2:¬y.2.2<z.2.2:=λe=>h2 (.inr ⟨by omega,e⟩)
   exact absurd h' (List.not_lt.2 (List.le_trans (List.not_lt.1 n2) (List.not_lt.1 n1)))
theorem zZk{x y:Rn}(h:x.2.2≠y.2.2):ltN x y=true\/ltN y x=true:=by
 rw[zNQ,zNQ,zLu,zLu,decide_eq_true_iff,decide_eq_true_iff];by_cases h1:y.2.1<x.2.1
 .exact .inl (.inl h1)
 by_cases h2:x.2.1<y.2.1
 .exact .inr (.inl h2)
 have e:x.2.1=y.2.1:=by omega
 by_cases h3:x.2.2<y.2.2
 .exact .inl (.inr ⟨e,h3⟩)
 .refine .inr (.inr ⟨e.symm,?_⟩)
  rcases List.le_iff_lt_or_eq.1 (List.not_lt.1 h3)with h5|h5
  .exact h5
  .exact absurd h5.symm h
end Go.Proofs.YtfiahaglhiijaaaGreatDoor.score
namespace Go.Proofs.YtfiahaglhiijaaaGreatDoor.score
open Go Go.Sy Go.Shelf Go.RowKit Go.Lib Go.Sort
def conv(x:Rn):Rk:=(x.1,x.2.1,⟨x.2.2.toArray⟩)
def zSo(x y:Rn):Int:=zWV (conv x) (conv y)
theorem zUC:ltOf zSo=ltN:=by
 funext x y
 have e:∀l:List UInt8,(⟨l.toArray⟩:ByteArray).toList=l:=λl=>by rw[ByteArray.toList_eq]
 unfold ltOf zSo zWV zWU Lib.compareInt zPn ltN conv;simp only[e];by_cases h1:y.2.1<x.2.1
 .simp[h1]
 .by_cases h2:x.2.1<y.2.1
  .have h3:¬x.2.1=y.2.1:=by omega
   simp[h1,h2,h3]
  .have h3:x.2.1=y.2.1:=by omega
   cases h4:Op.bytesLess x.2.2 y.2.2 with
   |true=>simp[h3]
   |false=>by_cases h5:x.2.2=y.2.2<;>simp[h3,h5]
theorem zbK(blk off size:Nat)(w:World):CmpLays Tryz.prog 46 #[] zA9.enc 3 zSo blk off size w:=
 λ_ _ _ _ x y=>zbJ (conv x) (conv y) _
set_option maxHeartbeats 1000000 in
theorem zbL(blk cap:Nat)(d:Array Rn)(w:World)(hH:HoldsK zA9.enc 3 w blk 0 d)(hblk:blk<w.heap.size)(hsz:d.size<4611686018427387904):
  Calls Tryz.prog 45 #[.slice (some ⟨blk,0,none⟩) d.size cap,.func (.func 46) #[] #[]] w λe w'=>e=.returned (.tuple #[])/\∃n os,w'=sortWorldK zA9.enc 3 w blk 0 n (pdq (ltOf zSo) d 0 d.size (Lib.bitLen d.size) true true) os:=by
 have eg:∀args w,(callFunc 46 args).run Tryz.prog w=.ok (.enter 46 args) w:=enters_of Tryz.func46 (by kernel_rfl) rfl
 have hO:SWO (ltOf zSo):=by rw[zUC];exact zYv
 exact AnyQ.slices_SortFunc_eq Tryz.sortRank 3 Tryz.isAgg68 Tryz.sizeOf68 zA9.enc (λ_=>rfl) (λx v hv=>by simp[zA9]at hv;rcases hv with rfl|rfl|rfl<;>rfl) zSo hO 46 #[] blk 0 cap d w eg (zbK blk 0 d.size w) hH hblk hsz
theorem zcY(p:Option Addr)(cap:Nat)(fv:Value)(w:World):Calls Tryz.prog 45 #[.slice p 0 cap,fv] w λe w'=>e=.returned (.tuple #[])/\w'=w:=
 AnyF.slices_SortFunc_none { Tryz.sortRank with } p cap fv w
theorem zXL{G:Cx}(hG:GPP G):FOK Tryz.prog G ⟨45,[(0,0)],zKC⟩:=by
 have hbo:Tryz.f45.body.isSome=true:=by kernel_rfl
 obtain⟨body,hbo⟩:=Option.isSome_iff_exists.1 hbo;refine zcX (C:=zA9) hG zYv ⟨Tryz.f45,body,Tryz.func45,hbo,by kernel_rfl⟩ (λblk cap d w h1 h2 h3=>?_) zcY
 have:=zbL blk cap d w h1 h2 h3;rw[zUC]at this;exact this
end Go.Proofs.YtfiahaglhiijaaaGreatDoor.score
namespace Go.Proofs.YtfiahaglhiijaaaGreatDoor.score
open Go Go.Sy Go.RowKit
noncomputable def G0:Cx:=zOQ
theorem zXM(k:IntKind)(zs:List Int):PP (.qd (.agg (zs.map λz=>.int k z)) 0):=.qd _ _ (.agg _ λx hx=>by
 obtain⟨z,_,rfl⟩:=Qg.1 hx;exact .int _ _)
theorem zZl(t:Nat)(s:JV):PP (.qd (.agg [.iface t (.qd (.agg [.str s]) 0)]) 0):=.qd _ _ (.agg _ λx hx=>by
 rw[Qa.1 hx];exact .iface _ _ (.qd _ _ (.agg _ λy hy=>by rw[Qa.1 hy];exact .str _)))
theorem zeQ:zUA=zWR.map λz=>.int .u8 z:=by kernel_rfl
theorem zeR:zUB=zWS.map λz=>.int .u8 z:=by kernel_rfl
theorem zeS:zPm=zWT.map λz=>.int .u64 z:=by kernel_rfl
theorem zan:GPP G0:=λg v h=>by
 have h:zOQ.wV g=some v:=h;simp only[zOQ]at h;split at h
 .cases h;rw[zeQ];exact zXM _ _
 split at h
 .cases h;rw[zeR];exact zXM _ _
 split at h
 .cases h;rw[zeS];exact zXM _ _
 split at h
 .cases h;exact zZl _ _
 split at h
 .cases h;exact zZl _ _
 cases h
theorem zUD:FOK Tryz.prog G0 ⟨45,[(0,0)],zKC⟩:=zXL zan
theorem zeT:zCa Tryz.prog G0:=zal
theorem mix:Tryz.prog.follows .mixedOrders=true:=mixed
theorem zgH:zPm=Lib.pow10Tab.map λz=>.int .u64 z:=by kernel_rfl
def zYw:AV:=.agg [.str [120],.int .i64 0,.int .i64 1,.int .i64 5,.int .i64 0,.int .i64 0,.int .i64 0,.str [],.bool false]
def zUE:AV:=.agg [.str [97],.qg 2 [],.int .i64 10,.int .i64 0,.int .i64 0,.int .i64 0,.bool true,.qg 9 [zYw]]
def zUF:AV:=.agg [.str [98],.qg 2 [],.int .i64 10,.int .i64 0,.int .i64 0,.int .i64 0,.bool true,.qg 9 []]
def useV:JB:=#[.string ⟨#[120]⟩,.int .i64 0,.int .i64 1,.int .i64 5,.int .i64 0,.int .i64 0,.int .i64 0,.string ⟨#[]⟩,.bool false]
def zHo(b:Nat):JB:=#[.string ⟨#[97]⟩,.slice none 0 0,.int .i64 10,.int .i64 0,.int .i64 0,.int .i64 0,.bool true,.slice (some ⟨b,0,none⟩) 1 1]
def zKD:JB:=#[.string ⟨#[98]⟩,.slice none 0 0,.int .i64 10,.int .i64 0,.int .i64 0,.int .i64 0,.bool true,.slice none 0 0]
set_option maxRecDepth 100000 in
theorem zao(w:World):Calls Tryz.prog 17 #[] w λe w'=>e=.returned (.slice (some ⟨w.heap.size+1+1,0,none⟩) 2 2)/\w'=((w.alloc (.cells useV 63)).alloc (.cells (zHo w.heap.size) 40)).alloc (.cells (zHo w.heap.size++zKD) 40):=by
 go_enter Tryz.func17,Tryz.ntmps17
 go_wp2
 go_ret
 exact⟨rfl,rfl⟩
theorem zeU:PP zYw:=.agg _ λe he=>by
 simp only[QH,List.not_mem_nil,or_false]at he;rcases he with rfl|rfl|rfl|rfl|rfl|rfl|rfl|rfl|rfl<;>constructor
theorem zVp{k:Nat}{l:JE}(h:∀e∈l,PP e):PP (.qg k l):=.qg _ _ h
theorem zcZ:PP (.qg 8 [zUE,zUF]):=zVp λv hv=>by
 have h0:∀k,PP (.qg k []):=λk=>zVp λe he=>by cases he
 simp only[QH,List.not_mem_nil,or_false]at hv;rcases hv with rfl|rfl
 .refine .agg _ λe he=>?_
  simp only[QH,List.not_mem_nil,or_false]at he;rcases he with rfl|rfl|rfl|rfl|rfl|rfl|rfl|rfl
  .exact .str _
  .exact h0 2
  .exact .int _ _
  .exact .int _ _
  .exact .int _ _
  .exact .int _ _
  .exact .bool _
  .exact zVp λe he=>by rw[Qa.1 he];exact zeU
 .refine .agg _ λe he=>?_
  simp only[QH,List.not_mem_nil,or_false]at he;rcases he with rfl|rfl|rfl|rfl|rfl|rfl|rfl|rfl
  .exact .str _
  .exact h0 2
  .exact .int _ _
  .exact .int _ _
  .exact .int _ _
  .exact .int _ _
  .exact .bool _
  .exact h0 9
def zHp:JE->JF
 |[]=>some (.qg 8 [zUE,zUF])
 |_=>none
theorem zc0{E:Env}{w w':World}(h0:w'.heap[w.heap.size]?=some (.cells useV 63 (0,0)))(h2:w'.heap[w.heap.size+1+1]?=some (.cells (zHo w.heap.size++zKD) 40 (0,0)))(z0:E.Z w.heap.size)(z2:E.Z (w.heap.size+1+1)):VR E w' (.qg 8 [zUE,zUF]) (.slice (some ⟨w.heap.size+1+1,0,none⟩) 2 2):=by
 have i0:∀n:Int,-9223372036854775808<=n->n<=9223372036854775807->VR E w' (.int .i64 n) (.int .i64 n):=λn a b=>.int _ _ ⟨a,b⟩
 have hu:VR E w' zYw (.agg useV):=by
  refine VR.qN (.cons (.str _ _ rfl (by decide)) (.cons (i0 _ (by decide) (by decide)) (.cons (i0 _ (by decide) (by decide)) (.cons (i0 _ (by decide) (by decide)) (.cons (i0 _ (by decide) (by decide)) (.cons (i0 _ (by decide) (by decide)) (.cons (i0 _ (by decide) (by decide)) (.cons (.str _ _ rfl (by decide)) (.cons (.bool _) .nil))))))))) λv hv=>?_
  have:∀v∈useV.toList,v.oneCell'=true:=by decide
  exact this v hv
 have hus:VR E w' (.qg 9 [zYw]) (.slice (some ⟨w.heap.size,0,none⟩) 1 1):=by
  refine .qg [zYw] w.heap.size 0 1 9 (λ_=>.agg useV) z0 (by decide) (by decide) (λi e he=>?_) (λi e he=>?_) λi hi=>⟨rfl,λj c hj=>?_⟩
  .match i,he with
   |0,he=>cases he;rfl
   |i+1,he=>cases i<;>cases he
  .match i,he with
   |0,he=>cases he;exact hu
   |i+1,he=>cases i<;>cases he
  .have:i=0:=by simp at hi;omega
   subst this;have hj:useV[j]?=some c:=hj;simp[World.cell?,h0,hj]
 have l0:∀k,VR E w' (.qg k []) (.slice none 0 0):=λk=>.wc _ _ _ (by decide)
 have hA:VR E w' zUE (.agg (zHo w.heap.size)):=by
  refine VR.qN (.cons (.str _ _ rfl (by decide)) (.cons (l0 2) (.cons (i0 _ (by decide) (by decide)) (.cons (i0 _ (by decide) (by decide)) (.cons (i0 _ (by decide) (by decide)) (.cons (i0 _ (by decide) (by decide)) (.cons (.bool _) (.cons hus .nil)))))))) λv hv=>?_
  simp only[zHo,QH,List.not_mem_nil,or_false]at hv;rcases hv with rfl|rfl|rfl|rfl|rfl|rfl|rfl|rfl<;>rfl
 have hB:VR E w' zUF (.agg zKD):=by
  refine VR.qN (.cons (.str _ _ rfl (by decide)) (.cons (l0 2) (.cons (i0 _ (by decide) (by decide)) (.cons (i0 _ (by decide) (by decide)) (.cons (i0 _ (by decide) (by decide)) (.cons (i0 _ (by decide) (by decide)) (.cons (.bool _) (.cons (l0 9) .nil)))))))) λv hv=>?_
  simp only[zKD,QH,List.not_mem_nil,or_false]at hv;rcases hv with rfl|rfl|rfl|rfl|rfl|rfl|rfl|rfl<;>rfl
 refine .qg [zUE,zUF] (w.heap.size+1+1) 0 2 8 (λi=>if i=0 then .agg (zHo w.heap.size)else .agg zKD) z2 (by decide) (by decide) (λi e he=>?_) (λi e he=>?_) λi hi=>?_
 .match i,he with
  |0,he=>cases he;rfl
  |1,he=>cases he;rfl
  |i+2,he=>cases i<;>cases he
 .match i,he with
  |0,he=>cases he;exact hA
  |1,he=>cases he;exact hB
  |i+2,he=>cases i<;>cases he
 .match i,hi with
  |0,_=>
   refine⟨rfl,λj c hj=>?_⟩
   have hj:(zHo w.heap.size)[j]?=some c:=hj;have:(zHo w.heap.size++zKD)[j]?=some c:=by
    have hl:=(Array.getElem?_eq_some_iff.1 hj).1;rw[Array.getElem?_append_left hl];exact hj
   simp[World.cell?,h2,this]
  |1,_=>
   refine⟨rfl,λj c hj=>?_⟩
   have hj:zKD[j]?=some c:=hj;have:(zHo w.heap.size++zKD)[8+j]?=some c:=by
    rw[Array.getElem?_append_right (by show 8<=8+j;omega)]
    rw[show 8+j-(zHo w.heap.size).size=j from by show 8+j-8=j;omega]
    exact hj
   simp[World.cell?,h2,this]
theorem zeV(h:Array Obj)(a b c:Obj):(((h.push a).push b).push c)[h.size]?=some a:=by
 rw[Array.getElem?_push,if_neg (by simp;omega),Array.getElem?_push,if_neg (by simp),Array.getElem?_push,if_pos rfl]
theorem zeW(h:Array Obj)(a b c:Obj):(((h.push a).push b).push c)[h.size+1+1]?=some c:=by
 rw[Array.getElem?_push,if_pos (by simp)]
theorem zZm{h:Array Obj}{a b c:Obj}{i:Nat}(hi:i<h.size+3):i<(((h.push a).push b).push c).size:=by
 simp only[Array.size_push];omega
theorem zK7:zG7 Tryz.prog G0 17 zHp:=by
 have hbo:Tryz.f17.body.isSome=true:=by kernel_rfl
 obtain⟨body,hbo⟩:=Option.isSome_iff_exists.1 hbo;intro args v _ hv;unfold zHp at hv;split at hv
 rotate_left
 .cases hv
 cases hv;refine⟨⟨Tryz.f17,body,Tryz.func17,hbo,by kernel_rfl⟩,zcZ,λH nx E w cargs hr hva hg hfr=>?_⟩
 have hc:=hva.of_nil;have hca:cargs=#[]:=by apply Array.toList_inj.1;simpa using hc
 subst hca;refine(zao w).mono λe w' h=>?_
 obtain⟨rfl,rfl⟩:=h;have hb:Below w.heap.size w (((w.alloc (.cells useV 63)).alloc (.cells (zHo w.heap.size) 40)).alloc (.cells (zHo w.heap.size++zKD) 40)):=Joins.below_alloc3 _ _ _ _;obtain⟨k1,k2,k3⟩:=zbF hr hb nx;refine⟨_,_,rfl,k1,k2,zc0 (zeV ..) (zeW ..) (.inr ⟨QA _,zZm (by omega)⟩) (.inr ⟨by omega,zZm (by omega)⟩)⟩
noncomputable def zJ6:JE->JF:=fmtG
theorem zNR:zG7 Tryz.prog G0 122 zJ6:=by
 have hbo:Tryz.f122.body.isSome=true:=by kernel_rfl
 obtain⟨body,hbo⟩:=Option.isSome_iff_exists.1 hbo;refine zeN (g:=0) Tryz.func122 hbo (by kernel_rfl) (by kernel_rfl) ?_ λn h0 h1 w ht=>Tryz.strconv_FormatInt_10 n h0 h1 w ht
 show some (AV.qd (.agg zPm) 0)=_
 rw[zgH]
noncomputable def zJ7:JE->JF:=zdB
theorem zNS:zG7 Tryz.prog G0 143 zJ7:=by
 have hbo:Tryz.f143.body.isSome=true:=by kernel_rfl
 obtain⟨body,hbo⟩:=Option.isSome_iff_exists.1 hbo;exact zeM Tryz.func143 hbo (by kernel_rfl) λs c w=>Tryz.strings_IndexByte s c w
noncomputable def zEL:JE->JF:=zUv 195 (.iface 212 (.qd (.agg [.str [105,110,118,97,108,105,100,32,115,121,110,116,97,120]]) 0)) (.iface 212 (.qd (.agg [.str [118,97,108,117,101,32,111,117,116,32,111,102,32,114,97,110,103,101]]) 0))
theorem zOl:zG7 Tryz.prog G0 127 zEL:=by
 have hbo:Tryz.f127.body.isSome=true:=by kernel_rfl
 obtain⟨body,hbo⟩:=Option.isSome_iff_exists.1 hbo;refine zcV (gs:=1) (gr:=2) (ty:=206) Tryz.func127 hbo (by kernel_rfl) zan rfl rfl (λs hmax v h w=>(Tryz.strconv_ParseInt_10_at64_ok s hmax v h w).mono λe w' h=>⟨h.1,?_⟩) (λs hlim h h' ev w hv hev=>Any.strconv_ParseInt_10_at64_syntax Tryz.laysC174 s hlim (by
  revert h h'
  cases Lib.parseIntB 64 s.data.toList with
  |ok v=>exact λh _=>absurd rfl (h v)
  |range=>exact λ_ h=>absurd rfl h
  |_=>exact λ_ _=>rfl) ev w hv hev) λs hlim h ev w hv hev=>Tryz.strconv_ParseInt_10_at64_range s hlim h ev w hv hev
 rcases h.2 with rfl|⟨t,rfl⟩
 .exact Below.refl _ _
 .exact Lib.bytesWorld_below _ _ _
noncomputable def zNT:JE->JF:=zSm
theorem zQO:zG7 Tryz.prog G0 62 zNT:=by
 have hbo:Tryz.f62.body.isSome=true:=by kernel_rfl
 obtain⟨body,hbo⟩:=Option.isSome_iff_exists.1 hbo;exact zcU Tryz.func62 hbo (by kernel_rfl) (λi hi w=>Tryz.strconv_Itoa_small i hi w) zam
noncomputable def t0:Tb Tryz.prog G0:=Tb.nil
end Go.Proofs.YtfiahaglhiijaaaGreatDoor.score
