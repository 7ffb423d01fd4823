/- THE LAW'S BASE: the package variables that it reads, and what Go's library gives. No condition. -/
import Derived.Test.YthiefohjkbdjeaaGreatDoorFxF
import Derived.Test.YthiefohjkbdjeaaGreatDoorChecked
import Derived.WalkKit
import Derived.Lib.SmallJoins
import Derived.Test.YthiefohjkbdjeaaGreatDoorSortShelf
import Derived.Lib.Walk
import Derived.Sort.Grow
import Derived.Handy
import Derived.Deep.RegionHeld3
import Derived.WalkSmall
import Derived.Deep.Draws
import Derived.Test.YthiefohjkbdjeaaGreatDoorShelf
import Derived.WalkKit
set_option linter.unusedVariables false
set_option linter.unusedSimpArgs false
namespace Go.Proofs.YthiefohjkbdjeaaGreatDoor.scoreTurned
open Go.Sy
theorem own:ownKnob Tryz.prog.godebug=none:=by kernel_rfl
theorem mixed:Tryz.prog.follows .mixedOrders=true:=by kernel_rfl
noncomputable def zNB:List Int:=[0,1,28,2,29,14,24,3,30,22,20,15,25,17,4,8,31,27,13,23,21,19,16,7,26,12,18,6,11,5,10,9]
noncomputable def zI6:List AV:=[.int .u8 0,.int .u8 1,.int .u8 28,.int .u8 2,.int .u8 29,.int .u8 14,.int .u8 24,.int .u8 3,.int .u8 30,.int .u8 22,.int .u8 20,.int .u8 15,.int .u8 25,.int .u8 17,.int .u8 4,.int .u8 8,.int .u8 31,.int .u8 27,.int .u8 13,.int .u8 23,.int .u8 21,.int .u8 19,.int .u8 16,.int .u8 7,.int .u8 26,.int .u8 12,.int .u8 18,.int .u8 6,.int .u8 11,.int .u8 5,.int .u8 10,.int .u8 9]
noncomputable def zNC:List Int:=[0,1,56,2,57,49,28,3,61,58,42,50,38,29,17,4,62,47,59,36,45,43,51,22,53,39,33,30,24,18,12,5,63,55,48,27,60,41,37,16,46,35,44,21,52,32,23,11,54,26,40,15,34,20,31,10,25,14,19,9,13,8,7,6]
noncomputable def zI7:List AV:=[.int .u8 0,.int .u8 1,.int .u8 56,.int .u8 2,.int .u8 57,.int .u8 49,.int .u8 28,.int .u8 3,.int .u8 61,.int .u8 58,.int .u8 42,.int .u8 50,.int .u8 38,.int .u8 29,.int .u8 17,.int .u8 4,.int .u8 62,.int .u8 47,.int .u8 59,.int .u8 36,.int .u8 45,.int .u8 43,.int .u8 51,.int .u8 22,.int .u8 53,.int .u8 39,.int .u8 33,.int .u8 30,.int .u8 24,.int .u8 18,.int .u8 12,.int .u8 5,.int .u8 63,.int .u8 55,.int .u8 48,.int .u8 27,.int .u8 60,.int .u8 41,.int .u8 37,.int .u8 16,.int .u8 46,.int .u8 35,.int .u8 44,.int .u8 21,.int .u8 52,.int .u8 32,.int .u8 23,.int .u8 11,.int .u8 54,.int .u8 26,.int .u8 40,.int .u8 15,.int .u8 34,.int .u8 20,.int .u8 31,.int .u8 10,.int .u8 25,.int .u8 14,.int .u8 19,.int .u8 9,.int .u8 13,.int .u8 8,.int .u8 7,.int .u8 6]
noncomputable def zND:List Int:=[1,10,100,1000,10000,100000,1000000,10000000,100000000,1000000000,10000000000,100000000000,1000000000000,10000000000000,100000000000000,1000000000000000,10000000000000000,100000000000000000,1000000000000000000,10000000000000000000]
noncomputable def zF2:List AV:=[.int .u64 1,.int .u64 10,.int .u64 100,.int .u64 1000,.int .u64 10000,.int .u64 100000,.int .u64 1000000,.int .u64 10000000,.int .u64 100000000,.int .u64 1000000000,.int .u64 10000000000,.int .u64 100000000000,.int .u64 1000000000000,.int .u64 10000000000000,.int .u64 100000000000000,.int .u64 1000000000000000,.int .u64 10000000000000000,.int .u64 100000000000000000,.int .u64 1000000000000000000,.int .u64 10000000000000000000]
noncomputable def globs:Cx:=⟨fun n=>match Nat.beq n 4 with
 | true=>some (.eptr (.agg zI6) 0)
 | false=>match Nat.beq n 5 with
 | true=>some (.eptr (.agg zI7) 0)
 | false=>match Nat.beq n 0 with
 | true=>some (.eptr (.agg zF2) 0)
 | false=>match Nat.beq n 7 with
 | true=>some (.eptr (.agg [.iface 252 (.eptr (.agg [.str [118,97,108,117,101,32,111,117,116,32,111,102,32,114,97,110,103,101]]) 0)]) 0)
 | false=>match Nat.beq n 6 with
 | true=>some (.eptr (.agg [.iface 252 (.eptr (.agg [.str [105,110,118,97,108,105,100,32,115,121,110,116,97,120]]) 0)]) 0)
 | false=>none,fun _ _=>none⟩
theorem zQy:zAi Tryz.prog globs:=fun _ _ _ h=>by cases h
theorem zQz:zLj globs:=fun g v h=>by
 simp only [globs] at h;split at h
 ·cases h;kernel_rfl
 split at h
 ·cases h;kernel_rfl
 split at h
 ·cases h;kernel_rfl
 split at h
 ·cases h;kernel_rfl
 split at h
 ·cases h;kernel_rfl
 cases h
theorem zWh {l:List (String×DataW Unit)} {W:World} {σ:Nat->Value} (hL:laidMet Tryz.prog l W) (hm:("math/bits.deBruijn32tab",Lib.tabData .u8 zNB)∈l):VR (Env.still W σ) W (.eptr (.agg zI6) 0) (.pointer (some ⟨4,0,none⟩))/\zC0 W 4 (.eptr (.agg zI6) 0):=by
 have e:zI6=zNB.map fun z=>.int .u8 z:=by kernel_rfl
 rw [e];exact zKt hL hm (by kernel_rfl) (t:=243) (e:=5) (len:=32) (by kernel_rfl) (by kernel_rfl) (by kernel_rfl) (by kernel_rfl) (by kernel_rfl) (by kernel_rfl)
theorem zWi {l:List (String×DataW Unit)} {W:World} {σ:Nat->Value} (hL:laidMet Tryz.prog l W) (hm:("math/bits.deBruijn64tab",Lib.tabData .u8 zNC)∈l):VR (Env.still W σ) W (.eptr (.agg zI7) 0) (.pointer (some ⟨5,0,none⟩))/\zC0 W 5 (.eptr (.agg zI7) 0):=by
 have e:zI7=zNC.map fun z=>.int .u8 z:=by kernel_rfl
 rw [e];exact zKt hL hm (by kernel_rfl) (t:=244) (e:=5) (len:=64) (by kernel_rfl) (by kernel_rfl) (by kernel_rfl) (by kernel_rfl) (by kernel_rfl) (by kernel_rfl)
theorem zWj {l:List (String×DataW Unit)} {W:World} {σ:Nat->Value} (hL:laidMet Tryz.prog l W) (hm:("internal/strconv.uint64pow10",Lib.tabData .u64 zND)∈l):VR (Env.still W σ) W (.eptr (.agg zF2) 0) (.pointer (some ⟨0,0,none⟩))/\zC0 W 0 (.eptr (.agg zF2) 0):=by
 have e:zF2=zND.map fun z=>.int .u64 z:=by kernel_rfl
 rw [e];exact zKt hL hm (by kernel_rfl) (t:=211) (e:=177) (len:=20) (by kernel_rfl) (by kernel_rfl) (by kernel_rfl) (by kernel_rfl) (by kernel_rfl) (by kernel_rfl)
theorem star : "*" ++ "errors.errorString" = "*errors.errorString":=by decide
theorem zRE (u:TypeId) (h:Tryz.prog.typeName? 3 u=some "*errors.errorString"):u=252:=
 typeName_ptr_named (nm := "errors.errorString") (by rw [star];kernel_rfl) (by kernel_rfl) (by decide) u (by rw [star];exact h)
theorem zWk {l:List (String×DataW Unit)} {W:World} {σ:Nat->Value} (hL:laidMet Tryz.prog l W) (hm:("strconv.ErrRange",(.iface "*errors.errorString" (.ptr (.agg [.lit (.string [118,97,108,117,101,32,111,117,116,32,111,102,32,114,97,110,103,101])])):DataW Unit))∈l):
  VR (Env.still W σ) W (.eptr (.agg [.iface 252 (.eptr (.agg [.str [118,97,108,117,101,32,111,117,116,32,111,102,32,114,97,110,103,101]]) 0)]) 0) (.pointer (some ⟨7,0,none⟩))/\zC0 W 7 (.eptr (.agg [.iface 252 (.eptr (.agg [.str [118,97,108,117,101,32,111,117,116,32,111,102,32,114,97,110,103,101]]) 0)]) 0):=
 zMN hL hm (by kernel_rfl) (by kernel_rfl) Tryz.underlying149 zRE Tryz.underlying252 Tryz.underlying254 rfl rfl Tryz.underlying9 (by kernel_rfl) (by kernel_rfl)
theorem zWl {l:List (String×DataW Unit)} {W:World} {σ:Nat->Value} (hL:laidMet Tryz.prog l W) (hm:("strconv.ErrSyntax",(.iface "*errors.errorString" (.ptr (.agg [.lit (.string [105,110,118,97,108,105,100,32,115,121,110,116,97,120])])):DataW Unit))∈l):
  VR (Env.still W σ) W (.eptr (.agg [.iface 252 (.eptr (.agg [.str [105,110,118,97,108,105,100,32,115,121,110,116,97,120]]) 0)]) 0) (.pointer (some ⟨6,0,none⟩))/\zC0 W 6 (.eptr (.agg [.iface 252 (.eptr (.agg [.str [105,110,118,97,108,105,100,32,115,121,110,116,97,120]]) 0)]) 0):=
 zMN hL hm (by kernel_rfl) (by kernel_rfl) Tryz.underlying149 zRE Tryz.underlying252 Tryz.underlying254 rfl rfl Tryz.underlying9 (by kernel_rfl) (by kernel_rfl)
theorem zSz {l:List (String×DataW Unit)} {W:World} {σ:Nat->Value} (hL:laidMet Tryz.prog l W) (h4:("math/bits.deBruijn32tab",Lib.tabData .u8 zNB)∈l) (h5:("math/bits.deBruijn64tab",Lib.tabData .u8 zNC)∈l) (h0:("internal/strconv.uint64pow10",Lib.tabData .u64 zND)∈l) (h7:("strconv.ErrRange",(.iface "*errors.errorString" (.ptr (.agg [.lit (.string [118,97,108,117,101,32,111,117,116,32,111,102,32,114,97,110,103,101])])):DataW Unit))∈l) (h6:("strconv.ErrSyntax",(.iface "*errors.errorString" (.ptr (.agg [.lit (.string [105,110,118,97,108,105,100,32,115,121,110,116,97,120])])):DataW Unit))∈l):GR globs (Env.still W σ) W:=fun g v h=>by
 simp only [globs] at h;split at h
 ·rename_i hb;cases h;rw [Nat.eq_of_beq_eq_true hb];exact zWh hL h4
 split at h
 ·rename_i hb;cases h;rw [Nat.eq_of_beq_eq_true hb];exact zWi hL h5
 split at h
 ·rename_i hb;cases h;rw [Nat.eq_of_beq_eq_true hb];exact zWj hL h0
 split at h
 ·rename_i hb;cases h;rw [Nat.eq_of_beq_eq_true hb];exact zWk hL h7
 split at h
 ·rename_i hb;cases h;rw [Nat.eq_of_beq_eq_true hb];exact zWl hL h6
 cases h
end Go.Proofs.YthiefohjkbdjeaaGreatDoor.scoreTurned
namespace Go.Proofs.YthiefohjkbdjeaaGreatDoor.scoreTurned
open Go Go.Shelf Go.RowKit Go.Lib Go.Sort
set_option maxRecDepth 100000 in
theorem zM9 (s:ByteArray) (w:World):Calls Tryz.prog 110 #[.string s] w fun e w'=>e=.returned (.bool false)/\w'=w:=by
 go_enter Tryz.func110,Tryz.ntmps110
 go_wp2
 go_ret
 exact ⟨rfl,rfl⟩
@[simp] theorem zWb (P:Program) (w:World) (s u:ByteArray) (t:TypeId):(binOp .gtr t (.string s) (.string u)).run P w=.ok (.bool !(Op.bytesLess s.toList u.toList||s.toList==u.toList)) w:=by
 simp [binOp,Op.stringOp]
def zG7 (s t:ByteArray):Int:=if Op.bytesLess s.toList t.toList then -1 else if s.toList==t.toList then 0 else 1
set_option maxRecDepth 100000 in
theorem zPx (s t:ByteArray) (w:World):Calls Tryz.prog 67 #[.string s,.string t] w fun e w'=>e=.returned (.int .i64 (zG7 s t))/\w'=w:=by
 have h1:=fun W=>zM9 s W
 have h2:=fun W=>zM9 t W
 go_enter Tryz.func67,Tryz.ntmps67
 go_wp2_with (go_at_call 110;first | (refine (h1 _).mono ?_;rintro e w' ⟨rfl,rfl⟩) | (refine (h2 _).mono ?_;rintro e w' ⟨rfl,rfl⟩))
 all_goals go_ret
 all_goals refine ⟨?_,rfl⟩
 all_goals simp_all [zG7]
def zNE (x y:Int):Int:=if x=0 then y else x
set_option maxRecDepth 100000 in
theorem zVZ (b:Nat) (x y:Int) (w:World) (h0:w.cell? ⟨b,0,none⟩=some (.int .i64 x)) (h1:w.cell? ⟨b,1,none⟩=some (.int .i64 y)):Calls Tryz.prog 65 #[.slice (some ⟨b,0,none⟩) 2 2] w fun e w'=>e=.returned (.int .i64 (zNE x y))/\w'=w:=by
 go_enter Tryz.func65,Tryz.ntmps65
 go_wp2
 go_rounds 3
 all_goals go_ret
 all_goals refine ⟨?_,rfl⟩
 all_goals simp_all [zNE]
abbrev Rk:=Int×Int×ByteArray
def zNF (x y:Rk):Int:=zNE (Lib.compareInt y.2.1 x.2.1) (zG7 x.2.2 y.2.2)
theorem new3 (W:World) (a b:Obj) (cs:Array Value) (t:TypeId) (i:Nat):(((W.alloc a).alloc b).alloc (.cells cs t)).drew.cell? ⟨W.heap.size+1+1,i,none⟩=cs[i]?:=by
 have:(((W.alloc a).alloc b).alloc (.cells cs t)).drew.heap[W.heap.size+1+1]? = some (.cells cs t (0,0)):=by
  show (((W.heap.push a).push b).push (.cells cs t (0,0)))[W.heap.size+1+1]? = _
  rw [Array.getElem?_push,if_pos (by simp)]
 simp only [World.cell?,this,Nat.zero_add];simp
set_option maxHeartbeats 2000000 in
set_option maxRecDepth 100000 in
theorem zRF (x y:Rk) (W:World):Calls Tryz.prog 64 #[.agg #[.int .i64 x.1,.int .i64 x.2.1,.string x.2.2],.agg #[.int .i64 y.1,.int .i64 y.2.1,.string y.2.2]] W fun e w'=>e=.returned (.int .i64 (zNF x y))/\∃q os',w'=grow (W.drewN q) os':=by
 have mixed:Tryz.prog.follows .mixedOrders=true:=by kernel_rfl
 have hcon:=fun W'=>AnyG.cmp_Compare_int Tryz.cmpInt y.2.1 x.2.1 W'
 change ∀W',Calls Tryz.prog 66 _ _ _ at hcon;have hstr:=fun W'=>zPx x.2.2 y.2.2 W'
 have hor:=fun b W'=>zVZ b (Lib.compareInt y.2.1 x.2.1) (zG7 x.2.2 y.2.2) W'
 unfold zNF;generalize Lib.compareInt y.2.1 x.2.1=r at hcon hor ⊢;generalize zG7 x.2.2 y.2.2=r2 at hstr hor ⊢
 go_enter Tryz.func64,Tryz.ntmps64
 go_wp2
 go_region_held3 (fun w'=>w'.cell? ⟨W.heap.size,1,none⟩=some (.int .i64 x.2.1)/\w'.cell? ⟨W.heap.size,2,none⟩=some (.string x.2.2)/\w'.cell? ⟨W.heap.size+1,1,none⟩=some (.int .i64 y.2.1)/\w'.cell? ⟨W.heap.size+1,2,none⟩=some (.string y.2.2)) (go_keep)
  (first | (go_at_call 66;refine (hcon _).mono ?_;rintro e w' ⟨rfl,rfl⟩) | (go_at_call 67;refine (hstr _).mono ?_;rintro e w' ⟨rfl,rfl⟩) | (go_at_call 65;refine (hor _ _ (new3 ..) (new3 ..)).mono ?_;rintro e w' ⟨rfl,rfl⟩))
 go_wp2
 go_ret
 exact ⟨rfl,1,_,by rw [alloc_eq_grow,alloc_eq_grow,alloc_eq_grow,grow_grow,grow_grow];rfl⟩
end Go.Proofs.YthiefohjkbdjeaaGreatDoor.scoreTurned
namespace Go.Proofs.YthiefohjkbdjeaaGreatDoor.scoreTurned
open Go Go.Sy
abbrev Rn:=Int×Int×List UInt8
def ltN (x y:Rn):Bool:=decide (y.2.1<x.2.1)||(decide (x.2.1=y.2.1)&&Op.bytesLess x.2.2 y.2.2)
def zNG:List AV->Option Rn
 | [.int .i64 i,.int .i64 s,.str l]=>match l.all fun n=>Nat.blt n 256 with
  | true=>some (i,s,l.map UInt8.ofNat)
  | false=>none
 | _=>none
theorem zI8 {l:List Nat} (h:(l.all fun n=>Nat.blt n 256)=true):(l.map UInt8.ofNat).map UInt8.toNat=l:=by
 rw [List.map_map];refine (List.map_congr_left fun n hn=>?_).trans (List.map_id _)
 have:=List.all_eq_true.1 h n hn;rw [Nat.blt_eq] at this;simp only [Function.comp,id];exact UInt8.toNat_ofNat_of_lt' this
theorem toNat_inj {a b:List UInt8} (h:a.map UInt8.toNat=b.map UInt8.toNat):a=b:=by
 induction a generalizing b with
 | nil=>cases b with
  | nil=>rfl
  | cons y b=>cases h
 | cons x a ih=>cases b with
  | nil=>cases h
  | cons y b=>
   rw [List.map_cons,List.map_cons] at h;have h1:=(List.cons.inj h).1;rw [ih (List.cons.inj h).2,UInt8.toNat_inj.1 h1]
def zU:Cod Rn 3 where
 av x:=[.int .i64 x.1,.int .i64 x.2.1,.str (x.2.2.map UInt8.toNat)]
 enc x:=[.int .i64 x.1,.int .i64 x.2.1,.string ⟨x.2.2.toArray⟩]
 dec:=zNG
 k0:=by decide
 hav _:=rfl
 henc _:=rfl
 pp x a h:=by
  simp only [List.mem_cons,List.not_mem_nil,or_false] at h;rcases h with rfl | rfl | rfl
  ·exact .int _ _
  ·exact .int _ _
  ·exact .str _
 dav {l x} h:=by
  unfold zNG at h;split at h
  ·split at h
   ·rename_i hb;cases h;show _=[_,_,AV.str _]
    rw [zI8 hb]
   ·cases h
  ·cases h
 back {E w vs x} _ h:=by
  obtain ⟨h1,h2⟩:=h
  match vs,h1 with
  | [a,b,c],_=>
   have ha:=h2 0 _ _ rfl rfl;have hb:=h2 1 _ _ rfl rfl;have hc:=h2 2 _ _ rfl rfl;cases ha;cases hb;cases hc with
   | str l s h hl=>
    have:=toNat_inj h;obtain ⟨⟨sl⟩⟩:=s;have e:sl=x.2.2:=this;rw [e]
theorem zF3 (x y:Rn):ltN x y=true↔y.2.1<x.2.1\/(x.2.1=y.2.1/\Op.bytesLess x.2.2 y.2.2=true):=by
 simp [ltN]
theorem zEI:∀(x y:List UInt8),Op.bytesLess x y=decide (x<y)
 | [],[]=>by simp [Op.bytesLess]
 | _::_,[]=>by simp [Op.bytesLess]
 | [],_::_=>by simp [Op.bytesLess]
 | a::x,b::y=>by
  rw [Op.bytesLess,zEI x y];simp only [List.cons_lt_cons_iff];by_cases h1:a<b <;> by_cases h2:a=b <;> by_cases h3:x<y <;> simp [h1,h2,h3]
noncomputable def zEr:List AV->Heap->Vecs->Option (AV×Heap×Vecs):=zLD zU 64 ltN
theorem swoN:Go.Sort.SWO ltN where
 irrefl x:=by
  cases e:ltN x x with
  | false=>rfl
  | true=>
   rw [zF3,zEI,decide_eq_true_iff] at e;rcases e with h | ⟨_,h⟩
   ·omega
   ·exact absurd h (List.lt_irrefl _)
 trans x y z h1 h2:=by
  rw [zF3,zEI,decide_eq_true_iff] at *;rcases h1 with h1 | ⟨h1,h1'⟩ <;> rcases h2 with h2 | ⟨h2,h2'⟩
  ·exact .inl (by omega)
  ·exact .inl (by omega)
  ·exact .inl (by omega)
  ·exact .inr ⟨by omega,List.lt_trans h1' h2'⟩
 ntrans x y z h1 h2:=by
  have f:∀a b,ltN a b=false↔¬(b.2.1<a.2.1\/(a.2.1=b.2.1/\a.2.2<b.2.2)):=fun a b=>by
   have:=zF3 a b;rw [zEI,decide_eq_true_iff] at this;rw [←this];cases ltN a b <;> simp
  rw [f] at *;intro h;rcases h with h | ⟨h,h'⟩
  ·omega
  ·have e1:¬y.2.1<x.2.1:=fun e=>h1 (.inl e)
   have e2:¬z.2.1<y.2.1:=fun e=>h2 (.inl e)
   have e3:x.2.1=y.2.1:=by omega
   have n1:¬x.2.2<y.2.2:=fun e=>h1 (.inr ⟨e3,e⟩)
   have n2:¬y.2.2<z.2.2:=fun e=>h2 (.inr ⟨by omega,e⟩)
   exact absurd h' (List.not_lt.2 (List.le_trans (List.not_lt.1 n2) (List.not_lt.1 n1)))
theorem zUP {x y:Rn} (h:x.2.2≠y.2.2):ltN x y=true\/ltN y x=true:=by
 rw [zF3,zF3,zEI,zEI,decide_eq_true_iff,decide_eq_true_iff];by_cases h1:y.2.1<x.2.1
 ·exact .inl (.inl h1)
 by_cases h2:x.2.1<y.2.1
 ·exact .inr (.inl h2)
 have e:x.2.1=y.2.1:=by omega
 by_cases h3:x.2.2<y.2.2
 ·exact .inl (.inr ⟨e,h3⟩)
 ·refine .inr (.inr ⟨e.symm,?_⟩)
  rcases List.le_iff_lt_or_eq.1 (List.not_lt.1 h3) with h5 | h5
  ·exact h5
  ·exact absurd h5.symm h
end Go.Proofs.YthiefohjkbdjeaaGreatDoor.scoreTurned
namespace Go.Proofs.YthiefohjkbdjeaaGreatDoor.scoreTurned
open Go Go.Sy Go.Shelf Go.RowKit Go.Lib Go.Sort
def conv (x:Rn):Rk:=(x.1,x.2.1,⟨x.2.2.toArray⟩)
def zJH (x y:Rn):Int:=zNF (conv x) (conv y)
theorem zLF:ltOf zJH=ltN:=by
 funext x y
 have e:∀l:List UInt8,(⟨l.toArray⟩:ByteArray).toList=l:=fun l=>by rw [ByteArray.toList_eq]
 unfold ltOf zJH zNF zNE Lib.compareInt zG7 ltN conv;simp only [e];by_cases h1:y.2.1<x.2.1
 ·simp [h1]
 ·by_cases h2:x.2.1<y.2.1
  ·have h3:¬x.2.1=y.2.1:=by omega
   simp [h1,h2,h3]
  ·have h3:x.2.1=y.2.1:=by omega
   cases h4:Op.bytesLess x.2.2 y.2.2 with
   | true=>simp [h3]
   | false=>by_cases h5:x.2.2=y.2.2 <;> simp [h3,h5]
theorem zRG (blk off size:Nat) (w:World):CmpLays Tryz.prog 64 #[] zU.enc 3 zJH blk off size w:=
 fun _ _ _ _ x y=>zRF (conv x) (conv y) _
set_option maxHeartbeats 1000000 in
theorem zRH (blk cap:Nat) (d:Array Rn) (w:World) (hH:HoldsK zU.enc 3 w blk 0 d) (hblk:blk<w.heap.size) (hsz:d.size<4611686018427387904):
  Calls Tryz.prog 63 #[.slice (some ⟨blk,0,none⟩) d.size cap,.func (.func 64) #[] #[]] w fun e w'=>e=.returned (.tuple #[])/\∃n os,w'=sortWorldK zU.enc 3 w blk 0 n (pdq (ltOf zJH) d 0 d.size (Lib.bitLen d.size) true true) os:=by
 have eg:∀args w,(callFunc 64 args).run Tryz.prog w=.ok (.enter 64 args) w:=enters_of Tryz.func64 (by kernel_rfl) rfl
 have hO:SWO (ltOf zJH):=by rw [zLF];exact swoN
 exact AnyQ.slices_SortFunc_eq Tryz.sortRank 3 Tryz.isAgg88 Tryz.sizeOf88 zU.enc (fun _=>rfl) (fun x v hv=>by simp [zU] at hv;rcases hv with rfl | rfl | rfl <;> rfl) zJH hO 64 #[] blk 0 cap d w eg (zRG blk 0 d.size w) hH hblk hsz
theorem zSA (p:Option Addr) (cap:Nat) (fv:Value) (w:World):Calls Tryz.prog 63 #[.slice p 0 cap,fv] w fun e w'=>e=.returned (.tuple #[])/\w'=w:=
 AnyF.slices_SortFunc_none { Tryz.sortRank with } p cap fv w
theorem zOU {G:Cx} (hG:GPP G):FOK Tryz.prog G ⟨63,[(0,0)],zEr⟩:=by
 have hbo:Tryz.f63.body.isSome=true:=by kernel_rfl
 obtain ⟨body,hbo⟩:=Option.isSome_iff_exists.1 hbo;refine zSy (C:=zU) hG swoN ⟨Tryz.f63,body,Tryz.func63,hbo,by kernel_rfl⟩ (fun blk cap d w h1 h2 h3=>?_) zSA
 have:=zRH blk cap d w h1 h2 h3;rw [zLF] at this;exact this
end Go.Proofs.YthiefohjkbdjeaaGreatDoor.scoreTurned
namespace Go.Proofs.YthiefohjkbdjeaaGreatDoor.scoreTurned
open Go Go.Sy Go.RowKit
noncomputable def G0:Cx:=globs
theorem zOV (k:IntKind) (zs:List Int):PP (.eptr (.agg (zs.map fun z=>.int k z)) 0):=.eptr _ _ (.agg _ fun x hx=>by
 obtain ⟨z,_,rfl⟩:=List.mem_map.1 hx;exact .int _ _)
theorem zP1 (t:Nat) (s:List Nat):PP (.eptr (.agg [.iface t (.eptr (.agg [.str s]) 0)]) 0):=.eptr _ _ (.agg _ fun x hx=>by
 rw [List.mem_singleton.1 hx];exact .iface _ _ (.eptr _ _ (.agg _ fun y hy=>by rw [List.mem_singleton.1 hy];exact .str _)))
theorem zUQ:zI6=zNB.map fun z=>.int .u8 z:=by kernel_rfl
theorem zUR:zI7=zNC.map fun z=>.int .u8 z:=by kernel_rfl
theorem zUS:zF2=zND.map fun z=>.int .u64 z:=by kernel_rfl
theorem zj:GPP G0:=fun g v h=>by
 have h:globs.glob g=some v:=h;simp only [globs] at h;split at h
 ·cases h;rw [zUQ];exact zOV _ _
 split at h
 ·cases h;rw [zUR];exact zOV _ _
 split at h
 ·cases h;rw [zUS];exact zOV _ _
 split at h
 ·cases h;exact zP1 _ _
 split at h
 ·cases h;exact zP1 _ _
 cases h
theorem zLG:FOK Tryz.prog G0 ⟨63,[(0,0)],zEr⟩:=zOU zj
theorem zg:zAi Tryz.prog G0:=zQy
theorem mix:Tryz.prog.follows .mixedOrders=true:=mixed
noncomputable def T0 (U:Nat):TbF:=[]
noncomputable def O0 (U:Nat):TbH:=[]
theorem zWm:zF2=Lib.pow10Tab.map fun z=>.int .u64 z:=by kernel_rfl
theorem tab0 (U:Nat):TabOK Tryz.prog G0 (T0 U) (O0 U):=TabOK.nil
def useX:AV:=.agg [.str [120],.int .i64 0,.int .i64 1,.int .i64 5,.int .i64 0,.int .i64 0,.int .i64 0,.str [],.bool false]
def zLH:AV:=.agg [.str [97],.lst 2 [],.int .i64 10,.int .i64 0,.int .i64 0,.int .i64 0,.bool true,.lst 9 [useX]]
def zLI:AV:=.agg [.str [98],.lst 2 [],.int .i64 10,.int .i64 0,.int .i64 0,.int .i64 0,.bool true,.lst 9 []]
def useV:Array Value:=#[.string ⟨#[120]⟩,.int .i64 0,.int .i64 1,.int .i64 5,.int .i64 0,.int .i64 0,.int .i64 0,.string ⟨#[]⟩,.bool false]
def zCz (b:Nat):Array Value:=#[.string ⟨#[97]⟩,.slice none 0 0,.int .i64 10,.int .i64 0,.int .i64 0,.int .i64 0,.bool true,.slice (some ⟨b,0,none⟩) 1 1]
def zEs:Array Value:=#[.string ⟨#[98]⟩,.slice none 0 0,.int .i64 10,.int .i64 0,.int .i64 0,.int .i64 0,.bool true,.slice none 0 0]
set_option maxRecDepth 100000 in
theorem zQA (w:World):Calls Tryz.prog 23 #[] w fun e w'=>e=.returned (.slice (some ⟨w.heap.size+1+1,0,none⟩) 2 2)/\w'=((w.alloc (.cells useV 50)).alloc (.cells (zCz w.heap.size) 41)).alloc (.cells (zCz w.heap.size++zEs) 41):=by
 go_enter Tryz.func23,Tryz.ntmps23
 go_wp2
 go_ret
 exact ⟨rfl,rfl⟩
theorem zUT:PP useX:=.agg _ fun e he=>by
 simp only [List.mem_cons,List.not_mem_nil,or_false] at he;rcases he with rfl | rfl | rfl | rfl | rfl | rfl | rfl | rfl | rfl <;> constructor
theorem zMs {k:Nat} {l:List AV} (h:∀e∈l,PP e):PP (.lst k l):=.lst _ _ h
theorem zSB:PP (.lst 8 [zLH,zLI]):=zMs fun v hv=>by
 have h0:∀k,PP (.lst k []):=fun k=>zMs fun e he=>by cases he
 simp only [List.mem_cons,List.not_mem_nil,or_false] at hv;rcases hv with rfl | rfl
 ·refine .agg _ fun e he=>?_
  simp only [List.mem_cons,List.not_mem_nil,or_false] at he;rcases he with rfl | rfl | rfl | rfl | rfl | rfl | rfl | rfl
  ·exact .str _
  ·exact h0 2
  ·exact .int _ _
  ·exact .int _ _
  ·exact .int _ _
  ·exact .int _ _
  ·exact .bool _
  ·exact zMs fun e he=>by rw [List.mem_singleton.1 he];exact zUT
 ·refine .agg _ fun e he=>?_
  simp only [List.mem_cons,List.not_mem_nil,or_false] at he;rcases he with rfl | rfl | rfl | rfl | rfl | rfl | rfl | rfl
  ·exact .str _
  ·exact h0 2
  ·exact .int _ _
  ·exact .int _ _
  ·exact .int _ _
  ·exact .int _ _
  ·exact .bool _
  ·exact h0 9
def zBc:List AV->Option AV
 | []=>some (.lst 8 [zLH,zLI])
 | _=>none
theorem zSC {E:Env} {w w':World} (h0:w'.heap[w.heap.size]? = some (.cells useV 50 (0,0))) (h2:w'.heap[w.heap.size+1+1]? = some (.cells (zCz w.heap.size++zEs) 41 (0,0))) (z0:E.Z w.heap.size) (z2:E.Z (w.heap.size+1+1)):VR E w' (.lst 8 [zLH,zLI]) (.slice (some ⟨w.heap.size+1+1,0,none⟩) 2 2):=by
 have i0:∀n:Int,-9223372036854775808<=n->n<=9223372036854775807->VR E w' (.int .i64 n) (.int .i64 n):=fun n a b=>.int _ _ ⟨a,b⟩
 have hu:VR E w' useX (.agg useV):=by
  refine VR.mk_agg (.cons (.str _ _ rfl (by decide)) (.cons (i0 _ (by decide) (by decide)) (.cons (i0 _ (by decide) (by decide)) (.cons (i0 _ (by decide) (by decide)) (.cons (i0 _ (by decide) (by decide)) (.cons (i0 _ (by decide) (by decide)) (.cons (i0 _ (by decide) (by decide)) (.cons (.str _ _ rfl (by decide)) (.cons (.bool _) .nil))))))))) fun v hv=>?_
  have:∀v∈useV.toList,v.oneCell'=true:=by decide
  exact this v hv
 have hus:VR E w' (.lst 9 [useX]) (.slice (some ⟨w.heap.size,0,none⟩) 1 1):=by
  refine .lst [useX] w.heap.size 0 1 9 (fun _=>.agg useV) z0 (by decide) (by decide) (fun i e he=>?_) (fun i e he=>?_) fun i hi=>⟨rfl,fun j c hj=>?_⟩
  ·match i,he with
   | 0,he=>cases he;rfl
   | i+1,he=>cases i <;> cases he
  ·match i,he with
   | 0,he=>cases he;exact hu
   | i+1,he=>cases i <;> cases he
  ·have:i=0:=by simp at hi;omega
   subst this;have hj:useV[j]? = some c:=hj;simp [World.cell?,h0,hj]
 have l0:∀k,VR E w' (.lst k []) (.slice none 0 0):=fun k=>.lst0 _ _ _ (by decide)
 have hA:VR E w' zLH (.agg (zCz w.heap.size)):=by
  refine VR.mk_agg (.cons (.str _ _ rfl (by decide)) (.cons (l0 2) (.cons (i0 _ (by decide) (by decide)) (.cons (i0 _ (by decide) (by decide)) (.cons (i0 _ (by decide) (by decide)) (.cons (i0 _ (by decide) (by decide)) (.cons (.bool _) (.cons hus .nil)))))))) fun v hv=>?_
  simp only [zCz,List.mem_cons,List.not_mem_nil,or_false] at hv;rcases hv with rfl | rfl | rfl | rfl | rfl | rfl | rfl | rfl <;> rfl
 have hB:VR E w' zLI (.agg zEs):=by
  refine VR.mk_agg (.cons (.str _ _ rfl (by decide)) (.cons (l0 2) (.cons (i0 _ (by decide) (by decide)) (.cons (i0 _ (by decide) (by decide)) (.cons (i0 _ (by decide) (by decide)) (.cons (i0 _ (by decide) (by decide)) (.cons (.bool _) (.cons (l0 9) .nil)))))))) fun v hv=>?_
  simp only [zEs,List.mem_cons,List.not_mem_nil,or_false] at hv;rcases hv with rfl | rfl | rfl | rfl | rfl | rfl | rfl | rfl <;> rfl
 refine .lst [zLH,zLI] (w.heap.size+1+1) 0 2 8 (fun i=>if i=0 then .agg (zCz w.heap.size) else .agg zEs) z2 (by decide) (by decide) (fun i e he=>?_) (fun i e he=>?_) fun i hi=>?_
 ·match i,he with
  | 0,he=>cases he;rfl
  | 1,he=>cases he;rfl
  | i+2,he=>cases i <;> cases he
 ·match i,he with
  | 0,he=>cases he;exact hA
  | 1,he=>cases he;exact hB
  | i+2,he=>cases i <;> cases he
 ·match i,hi with
  | 0,_=>
   refine ⟨rfl,fun j c hj=>?_⟩
   have hj:(zCz w.heap.size)[j]? = some c:=hj;have:(zCz w.heap.size++zEs)[j]? = some c:=by
    have hl:=(Array.getElem?_eq_some_iff.1 hj).1;rw [Array.getElem?_append_left hl];exact hj
   simp [World.cell?,h2,this]
  | 1,_=>
   refine ⟨rfl,fun j c hj=>?_⟩
   have hj:zEs[j]? = some c:=hj;have:(zCz w.heap.size++zEs)[8+j]? = some c:=by
    rw [Array.getElem?_append_right (by show 8<=8+j;omega)]
    rw [show 8+j-(zCz w.heap.size).size=j from by show 8+j-8=j;omega]
    exact hj
   simp [World.cell?,h2,this]
theorem zUU (h:Array Obj) (a b c:Obj):(((h.push a).push b).push c)[h.size]? = some a:=by
 rw [Array.getElem?_push,if_neg (by simp;omega),Array.getElem?_push,if_neg (by simp),Array.getElem?_push,if_pos rfl]
theorem zUV (h:Array Obj) (a b c:Obj):(((h.push a).push b).push c)[h.size+1+1]? = some c:=by
 rw [Array.getElem?_push,if_pos (by simp)]
theorem zP2 {h:Array Obj} {a b c:Obj} {i:Nat} (hi:i<h.size+3):i<(((h.push a).push b).push c).size:=by
 simp only [Array.size_push];omega
theorem zEC:zCV Tryz.prog G0 23 zBc:=by
 have hbo:Tryz.f23.body.isSome=true:=by kernel_rfl
 obtain ⟨body,hbo⟩:=Option.isSome_iff_exists.1 hbo;intro args v _ hv;unfold zBc at hv;split at hv
 rotate_left
 ·cases hv
 cases hv;refine ⟨⟨Tryz.f23,body,Tryz.func23,hbo,by kernel_rfl⟩,zSB,fun H nx E w cargs hr hva hg hfr=>?_⟩
 have hc:=hva.of_nil;have hca:cargs=#[]:=by apply Array.toList_inj.1;simpa using hc
 subst hca;refine (zQA w).mono fun e w' h=>?_
 obtain ⟨rfl,rfl⟩:=h;have hb:Below w.heap.size w (((w.alloc (.cells useV 50)).alloc (.cells (zCz w.heap.size) 41)).alloc (.cells (zCz w.heap.size++zEs) 41)):=Joins.below_alloc3 _ _ _ _;obtain ⟨k1,k2,k3⟩:=zRC hr hb nx;refine ⟨_,_,rfl,k1,k2,zSC (zUU ..) (zUV ..) (.inr ⟨Nat.le_refl _,zP2 (by omega)⟩) (.inr ⟨by omega,zP2 (by omega)⟩)⟩
noncomputable def zB5:List AV->Option AV:=fmtG
theorem zF4:zCV Tryz.prog G0 37 zB5:=by
 have hbo:Tryz.f37.body.isSome=true:=by kernel_rfl
 obtain ⟨body,hbo⟩:=Option.isSome_iff_exists.1 hbo;refine zUN (g:=0) Tryz.func37 hbo (by kernel_rfl) (by kernel_rfl) ?_ fun n h0 h1 w ht=>Tryz.strconv_FormatInt_10 n h0 h1 w ht
 show some (AV.eptr (.agg zF2) 0)=_
 rw [zWm]
noncomputable def zB6:List AV->Option AV:=idxG
theorem zF5:zCV Tryz.prog G0 43 zB6:=by
 have hbo:Tryz.f43.body.isSome=true:=by kernel_rfl
 obtain ⟨body,hbo⟩:=Option.isSome_iff_exists.1 hbo;exact zUM Tryz.func43 hbo (by kernel_rfl) fun s c w=>Tryz.strings_IndexByte s c w
noncomputable def zBk:List AV->Option AV:=zNA 237 (.iface 252 (.eptr (.agg [.str [105,110,118,97,108,105,100,32,115,121,110,116,97,120]]) 0)) (.iface 252 (.eptr (.agg [.str [118,97,108,117,101,32,111,117,116,32,111,102,32,114,97,110,103,101]]) 0))
theorem zGm:zCV Tryz.prog G0 135 zBk:=by
 have hbo:Tryz.f135.body.isSome=true:=by kernel_rfl
 obtain ⟨body,hbo⟩:=Option.isSome_iff_exists.1 hbo;refine zSw (gs:=6) (gr:=7) (ty:=248) Tryz.func135 hbo (by kernel_rfl) zj rfl rfl (fun s hmax v h w=>(Tryz.strconv_ParseInt_10_at64_ok s hmax v h w).mono fun e w' h=>⟨h.1,?_⟩) (fun s hlim h h' ev w hv hev=>Any.strconv_ParseInt_10_at64_syntax Tryz.laysC174 s hlim (by
  revert h h'
  cases Lib.parseIntB 64 s.data.toList with
  | ok v=>exact fun h _=>absurd rfl (h v)
  | range=>exact fun _ h=>absurd rfl h
  | _=>exact fun _ _=>rfl) ev w hv hev) fun s hlim h ev w hv hev=>Tryz.strconv_ParseInt_10_at64_range s hlim h ev w hv hev
 rcases h.2 with rfl | ⟨t,rfl⟩
 ·exact Below.refl _ _
 ·exact Lib.bytesWorld_below _ _ _
noncomputable def zD0:List AV->Option AV:=zJE
theorem zIg:zCV Tryz.prog G0 36 zD0:=by
 have hbo:Tryz.f36.body.isSome=true:=by kernel_rfl
 obtain ⟨body,hbo⟩:=Option.isSome_iff_exists.1 hbo;exact zSv Tryz.func36 hbo (by kernel_rfl) (fun i hi w=>Tryz.strconv_Itoa_small i hi w) zQz
end Go.Proofs.YthiefohjkbdjeaaGreatDoor.scoreTurned
