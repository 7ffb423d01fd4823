/- THE LAW OF THE LEAN FUNCTIONS, IN PLAIN LEAN: whatever the arguments, it says true. No condition. -/
import Derived.Test.YtdeeimaahdgeaaaGreatDoorSpecLinesS2
set_option linter.unusedVariables false
set_option linter.unusedSimpArgs false
set_option linter.unusedSectionVars false
namespace Go.Proofs.YtdeeimaahdgeaaaGreatDoor.spec
open Go Go.Sy
variable [MX]
theorem zQj:zBu=some (.bool true):=by
 unfold zBu gV;rw [zJY]
 kernel_rfl
end Go.Proofs.YtdeeimaahdgeaaaGreatDoor.spec
namespace Go.Proofs.YtdeeimaahdgeaaaGreatDoor.spec
open Go Go.Sy
theorem ek_i {β:Type} {wk:Bool} {f:(Int)->Option β} (x1:Int):dK wk [K.i IntKind.i64] (some (.int Go.IntKind.i64 x1)) f=f x1:=rfl
theorem wk_i {β:Type} {wk:Bool} {P:β->Prop} {f:(Int)->Option β} {o:Option (AV)} {R:(Int)->Prop} (h:Wp o fun v=>∃(x1:Int),v=(.int Go.IntKind.i64 x1)/\R x1) (k:∀(x1:Int),R x1->Wp (f x1) P):Wp (dK wk [K.i IntKind.i64] o f) P:=by
 obtain ⟨v,rfl,h⟩:=h;obtain ⟨x1,rfl,h⟩:=h;exact k x1 h
theorem qk_i {β:Type} {wk:Bool} {P:β->Prop} {f:(Int)->Option β} {o:Option (AV)} {x1:Int} (h:o=some (.int Go.IntKind.i64 x1)) (k:Wp (f x1) P):Wp (dK wk [K.i IntKind.i64] o f) P:=by
 subst h;exact k
theorem rk_i {β:Type} {wk:Bool} {R:Option β->Option β->Prop} {f f0:(Int)->Option β} {o:Option (AV)} {x1:Int} (h:o=some (.int Go.IntKind.i64 x1)) (k:R (f x1) (f0 x1)):R (dK wk [K.i IntKind.i64] o f) (dK wk [K.i IntKind.i64] o f0):=by
 subst h;exact k
theorem qk_u {β:Type} {wk:Bool} {P:β->Prop} {f:(Int)->Option β} {o:Option (AV)} {x1:Int} (h:o=some (.int Go.IntKind.u8 x1)) (k:Wp (f x1) P):Wp (dK wk [K.i IntKind.u8] o f) P:=by
 subst h;exact k
theorem zQ1 {β:Type} {wk:Bool} {P:β->Prop} {f:(List Nat)->(List Nat)->(Bool)->Option β} {o:Option (AV)} {x2:List Nat} {x3:List Nat} {x4:Bool} (h:o=some (.tup [.str x2,.str x3,.bool x4])) (k:Wp (f x2 x3 x4) P):Wp (dK wk [K.tup 3,K.s,K.s,K.b] o f) P:=by
 subst h;exact k
theorem zQ2 {β:Type} {wk:Bool} {R:Option β->Option β->Prop} {f f0:(List Nat)->(List Nat)->(Bool)->Option β} {o:Option (AV)} {x2:List Nat} {x3:List Nat} {x4:Bool} (h:o=some (.tup [.str x2,.str x3,.bool x4])) (k:R (f x2 x3 x4) (f0 x2 x3 x4)):R (dK wk [K.tup 3,K.s,K.s,K.b] o f) (dK wk [K.tup 3,K.s,K.s,K.b] o f0):=by
 subst h;exact k
theorem ek_b {β:Type} {wk:Bool} {f:(Bool)->Option β} (x1:Bool):dK wk [K.b] (some (.bool x1)) f=f x1:=rfl
theorem wk_b {β:Type} {wk:Bool} {P:β->Prop} {f:(Bool)->Option β} {o:Option (AV)} {R:(Bool)->Prop} (h:Wp o fun v=>∃(x1:Bool),v=(.bool x1)/\R x1) (k:∀(x1:Bool),R x1->Wp (f x1) P):Wp (dK wk [K.b] o f) P:=by
 obtain ⟨v,rfl,h⟩:=h;obtain ⟨x1,rfl,h⟩:=h;exact k x1 h
theorem qk_b {β:Type} {wk:Bool} {P:β->Prop} {f:(Bool)->Option β} {o:Option (AV)} {x1:Bool} (h:o=some (.bool x1)) (k:Wp (f x1) P):Wp (dK wk [K.b] o f) P:=by
 subst h;exact k
theorem rk_b {β:Type} {wk:Bool} {R:Option β->Option β->Prop} {f f0:(Bool)->Option β} {o:Option (AV)} {x1:Bool} (h:o=some (.bool x1)) (k:R (f x1) (f0 x1)):R (dK wk [K.b] o f) (dK wk [K.b] o f0):=by
 subst h;exact k
theorem wk_s {β:Type} {wk:Bool} {P:β->Prop} {f:(List Nat)->Option β} {o:Option (AV)} {R:(List Nat)->Prop} (h:Wp o fun v=>∃(x1:List Nat),v=(.str x1)/\R x1) (k:∀(x1:List Nat),R x1->Wp (f x1) P):Wp (dK wk [K.s] o f) P:=by
 obtain ⟨v,rfl,h⟩:=h;obtain ⟨x1,rfl,h⟩:=h;exact k x1 h
theorem qk_s {β:Type} {wk:Bool} {P:β->Prop} {f:(List Nat)->Option β} {o:Option (AV)} {x1:List Nat} (h:o=some (.str x1)) (k:Wp (f x1) P):Wp (dK wk [K.s] o f) P:=by
 subst h;exact k
theorem zRo {β:Type} {wk:Bool} {P:β->Prop} {f:(List AV)->Option β} {o:Option (AV)} {x1:List AV} (h:o=some (.lst 1 x1)) (k:Wp (f x1) P):Wp (dK wk [K.l 1] o f) P:=by
 subst h;exact k
theorem zEK {β:Type} {wk:Bool} {f:(Int)->(Bool)->Option β} (x2:Int) (x3:Bool):dK wk [K.tup 2,K.i IntKind.i64,K.b] (some (.tup [.int Go.IntKind.i64 x2,.bool x3])) f=f x2 x3:=rfl
theorem zSn {β:Type} {wk:Bool} {P:β->Prop} {f:(Int)->(AV)->Option β} {o:Option (AV)} {x2:Int} {x3:AV} (h:o=some (.tup [.int Go.IntKind.i64 x2,x3])) (k:Wp (f x2 x3) P):Wp (dK wk [K.tup 2,K.i IntKind.i64,K.av] o f) P:=by
 subst h;exact k
theorem zCR {β:Type} {wk:Bool} {P:β->Prop} {f:(Int)->(List Nat)->(List Nat)->(Int)->(Int)->(Int)->Option β} {o:Option (AV)} {x2:Int} {x3:List Nat} {x4:List Nat} {x5:Int} {x6:Int} {x7:Int} (h:o=some (.agg [.int Go.IntKind.i64 x2,.str x3,.str x4,.int Go.IntKind.i64 x5,.int Go.IntKind.i64 x6,.int Go.IntKind.i64 x7])) (k:Wp (f x2 x3 x4 x5 x6 x7) P):Wp (dK wk [K.agg 6,K.i IntKind.i64,K.s,K.s,K.i IntKind.i64,K.i IntKind.i64,K.i IntKind.i64] o f) P:=by
 subst h;exact k
theorem zMT {β:Type} {wk:Bool} {f:(List AV)->(Int)->(Int)->Option β} (x3:List AV) (x5:Int) (x6:Int):dK wk [K.tup 2,K.agg 1,K.l 6,K.agg 2,K.i IntKind.i64,K.i IntKind.i64] (some (.tup [.agg [.lst 6 x3],.agg [.int Go.IntKind.i64 x5,.int Go.IntKind.i64 x6]])) f=f x3 x5 x6:=rfl
theorem zQk {β:Type} {wk:Bool} {P:β->Prop} {f:(Int)->(Int)->(Int)->(Int)->Option β} {o:Option (AV)} {x2:Int} {x3:Int} {x4:Int} {x5:Int} (h:o=some (.agg [.int Go.IntKind.i64 x2,.int Go.IntKind.i64 x3,.int Go.IntKind.i64 x4,.int Go.IntKind.i64 x5])) (k:Wp (f x2 x3 x4 x5) P):Wp (dK wk [K.agg 4,K.i IntKind.i64,K.i IntKind.i64,K.i IntKind.i64,K.i IntKind.i64] o f) P:=by
 subst h;exact k
theorem zSo {β:Type} {wk:Bool} {P:β->Prop} {f:(List AV)->Option β} {o:Option (AV)} {x2:List AV} (h:o=some (.agg [.lst 6 x2])) (k:Wp (f x2) P):Wp (dK wk [K.agg 1,K.l 6] o f) P:=by
 subst h;exact k
theorem zOH {β:Type} {wk:Bool} {R:Option β->Option β->Prop} {f f0:(List AV)->Option β} {o:Option (AV)} {x2:List AV} (h:o=some (.agg [.lst 6 x2])) (k:R (f x2) (f0 x2)):R (dK wk [K.agg 1,K.l 6] o f) (dK wk [K.agg 1,K.l 6] o f0):=by
 subst h;exact k
theorem zCC {β:Type} {wk:Bool} {P:β->Prop} {f:(Int)->(List Nat)->(List Nat)->(Int)->(Int)->(Int)->(List Nat)->(Int)->(Int)->(Int)->(Int)->(List AV)->(Int)->(Int)->(Int)->Option β} {o:Option (AV)} {x3:Int} {x4:List Nat} {x5:List Nat} {x6:Int} {x7:Int} {x8:Int} {x9:List Nat} {x10:Int} {x11:Int} {x12:Int} {x13:Int} {x14:List AV} {x15:Int} {x17:Int} {x18:Int} (h:o=some (.tup [.agg [.int Go.IntKind.i64 x3,.str x4,.str x5,.int Go.IntKind.i64 x6,.int Go.IntKind.i64 x7,.int Go.IntKind.i64 x8,.str x9,.int Go.IntKind.i64 x10,.int Go.IntKind.i64 x11,.int Go.IntKind.i64 x12,.int Go.IntKind.i64 x13,.lst 6 x14,.int Go.IntKind.i64 x15],.agg [.int Go.IntKind.i64 x17,.int Go.IntKind.i64 x18]])) (k:Wp (f x3 x4 x5 x6 x7 x8 x9 x10 x11 x12 x13 x14 x15 x17 x18) P):Wp (dK wk [K.tup 2,K.agg 13,K.i IntKind.i64,K.s,K.s,K.i IntKind.i64,K.i IntKind.i64,K.i IntKind.i64,K.s,K.i IntKind.i64,K.i IntKind.i64,K.i IntKind.i64,K.i IntKind.i64,K.l 6,K.i IntKind.i64,K.agg 2,K.i IntKind.i64,K.i IntKind.i64] o f) P:=by
 subst h;exact k
theorem zKq {β:Type} {wk:Bool} {P:β->Prop} {f:(List AV)->(Int)->(Int)->Option β} {o:Option (AV)} {x2:List AV} {x4:Int} {x5:Int} (h:o=some (.tup [.lst 2 x2,.agg [.int Go.IntKind.i64 x4,.int Go.IntKind.i64 x5]])) (k:Wp (f x2 x4 x5) P):Wp (dK wk [K.tup 2,K.l 2,K.agg 2,K.i IntKind.i64,K.i IntKind.i64] o f) P:=by
 subst h;exact k
theorem zDd {β:Type} {wk:Bool} {P:β->Prop} {f:(List AV)->(Int)->(Int)->Option β} {o:Option (AV)} {x2:List AV} {x4:Int} {x5:Int} (h:o=some (.tup [.lst 13 x2,.agg [.int Go.IntKind.i64 x4,.int Go.IntKind.i64 x5]])) (k:Wp (f x2 x4 x5) P):Wp (dK wk [K.tup 2,K.l 13,K.agg 2,K.i IntKind.i64,K.i IntKind.i64] o f) P:=by
 subst h;exact k
theorem zEB {β:Type} {wk:Bool} {P:β->Prop} {f:(Int)->(List Nat)->(List Nat)->(Int)->(Int)->(Int)->(List Nat)->(Int)->(Int)->(Int)->(Int)->(List AV)->(Int)->Option β} {o:Option (AV)} {x2:Int} {x3:List Nat} {x4:List Nat} {x5:Int} {x6:Int} {x7:Int} {x8:List Nat} {x9:Int} {x10:Int} {x11:Int} {x12:Int} {x13:List AV} {x14:Int} (h:o=some (.agg [.int Go.IntKind.i64 x2,.str x3,.str x4,.int Go.IntKind.i64 x5,.int Go.IntKind.i64 x6,.int Go.IntKind.i64 x7,.str x8,.int Go.IntKind.i64 x9,.int Go.IntKind.i64 x10,.int Go.IntKind.i64 x11,.int Go.IntKind.i64 x12,.lst 6 x13,.int Go.IntKind.i64 x14])) (k:Wp (f x2 x3 x4 x5 x6 x7 x8 x9 x10 x11 x12 x13 x14) P):Wp (dK wk [K.agg 13,K.i IntKind.i64,K.s,K.s,K.i IntKind.i64,K.i IntKind.i64,K.i IntKind.i64,K.s,K.i IntKind.i64,K.i IntKind.i64,K.i IntKind.i64,K.i IntKind.i64,K.l 6,K.i IntKind.i64] o f) P:=by
 subst h;exact k
theorem zL {β:Type} {wk:Bool} {f:(Bool)->(Int)->(List Nat)->(List Nat)->(Int)->(Int)->(Int)->(List Nat)->(Int)->(Int)->(Int)->(Int)->(List AV)->(Int)->(List Nat)->Option β} (x1:Bool) (x2:Int) (x3:List Nat) (x4:List Nat) (x5:Int) (x6:Int) (x7:Int) (x8:List Nat) (x9:Int) (x10:Int) (x11:Int) (x12:Int) (x13:List AV) (x14:Int) (x15:List Nat):dD wk [D.v K.b,D.hc 0 false 14,D.v (K.i IntKind.i64),D.v K.s,D.v K.s,D.v (K.i IntKind.i64),D.v (K.i IntKind.i64),D.v (K.i IntKind.i64),D.v K.s,D.v (K.i IntKind.i64),D.v (K.i IntKind.i64),D.v (K.i IntKind.i64),D.v (K.i IntKind.i64),D.v (K.l 6),D.v (K.i IntKind.i64),D.v K.s] (some (.bool x1,[(0,.cells false [.int Go.IntKind.i64 x2,.str x3,.str x4,.int Go.IntKind.i64 x5,.int Go.IntKind.i64 x6,.int Go.IntKind.i64 x7,.str x8,.int Go.IntKind.i64 x9,.int Go.IntKind.i64 x10,.int Go.IntKind.i64 x11,.int Go.IntKind.i64 x12,.lst 6 x13,.int Go.IntKind.i64 x14,.str x15])],[])) f=f x1 x2 x3 x4 x5 x6 x7 x8 x9 x10 x11 x12 x13 x14 x15:=rfl
theorem zHF {β:Type} {wk:Bool} {R:Option β->Option β->Prop} {f f0:(Bool)->(Int)->(List Nat)->(List Nat)->(Int)->(Int)->(Int)->(List Nat)->(Int)->(Int)->(Int)->(Int)->(List AV)->(Int)->(List Nat)->Option β} {o:Option (AV×Heap×Vecs)} {x1:Bool} {x2:Int} {x3:List Nat} {x4:List Nat} {x5:Int} {x6:Int} {x7:Int} {x8:List Nat} {x9:Int} {x10:Int} {x11:Int} {x12:Int} {x13:List AV} {x14:Int} {x15:List Nat} (h:o=some (.bool x1,[(0,.cells false [.int Go.IntKind.i64 x2,.str x3,.str x4,.int Go.IntKind.i64 x5,.int Go.IntKind.i64 x6,.int Go.IntKind.i64 x7,.str x8,.int Go.IntKind.i64 x9,.int Go.IntKind.i64 x10,.int Go.IntKind.i64 x11,.int Go.IntKind.i64 x12,.lst 6 x13,.int Go.IntKind.i64 x14,.str x15])],[])) (k:R (f x1 x2 x3 x4 x5 x6 x7 x8 x9 x10 x11 x12 x13 x14 x15) (f0 x1 x2 x3 x4 x5 x6 x7 x8 x9 x10 x11 x12 x13 x14 x15)):R (dD wk [D.v K.b,D.hc 0 false 14,D.v (K.i IntKind.i64),D.v K.s,D.v K.s,D.v (K.i IntKind.i64),D.v (K.i IntKind.i64),D.v (K.i IntKind.i64),D.v K.s,D.v (K.i IntKind.i64),D.v (K.i IntKind.i64),D.v (K.i IntKind.i64),D.v (K.i IntKind.i64),D.v (K.l 6),D.v (K.i IntKind.i64),D.v K.s] o f) (dD wk [D.v K.b,D.hc 0 false 14,D.v (K.i IntKind.i64),D.v K.s,D.v K.s,D.v (K.i IntKind.i64),D.v (K.i IntKind.i64),D.v (K.i IntKind.i64),D.v K.s,D.v (K.i IntKind.i64),D.v (K.i IntKind.i64),D.v (K.i IntKind.i64),D.v (K.i IntKind.i64),D.v (K.l 6),D.v (K.i IntKind.i64),D.v K.s] o f0):=by
 subst h;exact k
theorem zTe {β:Type} {wk:Bool} {R:Option β->Option β->Prop} {f f0:Option β} {o:Option (AV×Heap×Vecs)}  (h:o=some (AV.sym 0,[],[(0,.mp [(AV.str [117,115,101,114],AV.func (Fn.func 83) [] []),(AV.str [98,97,110,100],AV.func (Fn.func 84) [] []),(AV.str [99,111,117,110,116],AV.func (Fn.func 85) [] []),(AV.str [100,111,119,110],AV.func (Fn.func 86) [] []),(AV.str [105,110],AV.func (Fn.func 87) [] []),(AV.str [99,112,117],AV.func (Fn.func 88) [] []),(AV.str [114,97,109],AV.func (Fn.func 89) [] []),(AV.str [100,105,115,107],AV.func (Fn.func 90) [] []),(AV.str [112,111,114,116,115],AV.func (Fn.func 91) [] []),(AV.str [114,117,108,101],AV.func (Fn.func 92) [] []),(AV.str [98,97,116,99,104],AV.func (Fn.func 93) [] [])])])) (k:R (f) (f0)):R (dD wk [D.v (K.c (AV.sym 0)),D.mpc 0 [(AV.str [117,115,101,114],AV.func (Fn.func 83) [] []),(AV.str [98,97,110,100],AV.func (Fn.func 84) [] []),(AV.str [99,111,117,110,116],AV.func (Fn.func 85) [] []),(AV.str [100,111,119,110],AV.func (Fn.func 86) [] []),(AV.str [105,110],AV.func (Fn.func 87) [] []),(AV.str [99,112,117],AV.func (Fn.func 88) [] []),(AV.str [114,97,109],AV.func (Fn.func 89) [] []),(AV.str [100,105,115,107],AV.func (Fn.func 90) [] []),(AV.str [112,111,114,116,115],AV.func (Fn.func 91) [] []),(AV.str [114,117,108,101],AV.func (Fn.func 92) [] []),(AV.str [98,97,116,99,104],AV.func (Fn.func 93) [] [])]] o f) (dD wk [D.v (K.c (AV.sym 0)),D.mpc 0 [(AV.str [117,115,101,114],AV.func (Fn.func 83) [] []),(AV.str [98,97,110,100],AV.func (Fn.func 84) [] []),(AV.str [99,111,117,110,116],AV.func (Fn.func 85) [] []),(AV.str [100,111,119,110],AV.func (Fn.func 86) [] []),(AV.str [105,110],AV.func (Fn.func 87) [] []),(AV.str [99,112,117],AV.func (Fn.func 88) [] []),(AV.str [114,97,109],AV.func (Fn.func 89) [] []),(AV.str [100,105,115,107],AV.func (Fn.func 90) [] []),(AV.str [112,111,114,116,115],AV.func (Fn.func 91) [] []),(AV.str [114,117,108,101],AV.func (Fn.func 92) [] []),(AV.str [98,97,116,99,104],AV.func (Fn.func 93) [] [])]] o f0):=by
 subst h;exact k
end Go.Proofs.YtdeeimaahdgeaaaGreatDoor.spec
namespace Go.Proofs.YtdeeimaahdgeaaaGreatDoor.spec
open Go Go.Sy
abbrev nd6 (k:Int) (s t:List Nat) (n l r:Int):AV:=.agg [.int .i64 k,.str s,.str t,.int .i64 n,.int .i64 l,.int .i64 r]
def topL:Nat:=4611686018427387904
def TL (es:List AV) (L:Nat->Nat) (m:Nat):Prop:=∀j,j<m->∃k s t n l r,es[j]? = some (nd6 k s t n l r)/\(-9223372036854775808<=n/\n<=9223372036854775807)/\s.length+t.length+24<=L j/\L j<=topL ∧
 (k=7->∃a:Nat,l=Int.ofNat a/\a<j/\L a+3<=L j)/\(k=8\/k=9->∃a b:Nat,l=Int.ofNat a/\r=Int.ofNat b/\a<j/\b<j/\L a+L b+7<=L j)
def upd {α:Type} (f:Nat->α) (a:Nat) (v:α):Nat->α:=fun j=>if j=a then v else f j
theorem zCD {α:Type} {f:Nat->α} {a:Nat} {v:α}:upd f a v a=v:=if_pos rfl
theorem zAq {α:Type} {f:Nat->α} {a j:Nat} {v:α} (h:j≠a):upd f a v j=f j:=if_neg h
def rs (L:Nat->Nat) (c:Nat->Int):Nat->Nat
 | 0=>0
 | i+1=>rs L c i+if c i=0 then L i else 0
theorem zKN {L L':Nat->Nat} {c c':Nat->Int}:∀{i:Nat},(∀j,j<i->L j=L' j)->(∀j,j<i->(c j=c' j))->rs L c i=rs L' c' i
 | 0,_,_=>rfl
 | i+1,h1,h2=>by
  rw [rs,rs,zKN (fun j h=>h1 j (by omega)) fun j h=>h2 j (by omega),h1 i (by omega),h2 i (by omega)]
theorem zOI {L:Nat->Nat} {c:Nat->Int} {a:Nat} (h0:c a=0) {v:Int} (hv:v≠0):∀{i:Nat},a<i->rs L (upd c a v) i+L a=rs L c i
 | 0,h=>by omega
 | i+1,h=>by
  rw [rs,rs];by_cases e:a=i
  ·subst e;rw [zCD,if_neg hv,if_pos h0,zKN (L':=L) (c':=c) (fun _ _=>rfl) fun j hj=>zAq (by omega)]
   omega
  ·have:=zOI (L:=L) (c:=c) h0 hv (show a<i by omega)
   rw [zAq (by omega)]
   omega
def fb:Nat->Nat->Nat->Nat
 | 0,a,b=>a
 | n+1,a,b=>fb n b (a+b+1)
theorem zQl:∀(n a b:Nat),fb (n+2) a b=fb (n+1) a b+fb n a b+1
 | 0,a,b=>by simp only [fb];omega
 | n+1,a,b=>by
  have:=zQl n b (a+b+1);rw [fb,fb,fb] at *;exact this
theorem zPj:∀(n a b:Nat),a<b->fb n a b<fb (n+1) a b
 | 0,a,b,h=>by simp only [fb];exact h
 | n+1,a,b,h=>by
  have:=zPj n b (a+b+1) (by omega)
  rw [fb,fb] at *;exact this
def fbL (j:Nat):Nat:=100*fb j 1 2
theorem zHG {a b:Nat} (h:a<b):∀{n m:Nat},n<=m->fb n a b<=fb m a b:=by
 intro n m hm
 induction m with
 | zero=>
  have:n=0:=by omega
  subst this;exact Nat.le_refl _
 | succ m ih=>
  by_cases e:n=m+1
  ·subst e;exact Nat.le_refl _
  ·exact Nat.le_trans (ih (by omega)) (Nat.le_of_lt (zPj m a b h))
theorem zSp {a j:Nat} (h:a<j):fbL a+3<=fbL j:=by
 have h1:=zPj a 1 2 (by omega)
 have h2:=zHG (a:=1) (b:=2) (by omega) (show a+1<=j by omega)
 unfold fbL;omega
theorem zSq {a b j:Nat} (h:a<b) (h2:b<j):fbL a+fbL b+7<=fbL j:=by
 obtain ⟨i,rfl⟩:∃i,j=i+2:=⟨j-2,by omega⟩
 have h0:=zQl i 1 2;have h1:=zHG (a:=1) (b:=2) (by omega) (show a<=i by omega)
 have h2:=zHG (a:=1) (b:=2) (by omega) (show b<=i+1 by omega)
 unfold fbL;omega
theorem zSr {j:Nat} (h:j<=64):fbL j<=topL:=by
 have h1:=zHG (a:=1) (b:=2) (by omega) h
 have h2:fb 64 1 2<=40000000000000000:=by decide
 unfold fbL topL;omega
theorem zTf (j:Nat):100<=fbL j:=by
 have h1:=zHG (a:=1) (b:=2) (by omega) (show 0<=j by omega)
 have:fb 0 1 2=1:=rfl;unfold fbL;omega
end Go.Proofs.YtdeeimaahdgeaaaGreatDoor.spec
namespace Go.Proofs.YtdeeimaahdgeaaaGreatDoor.spec
open Go Go.Sy
variable [MX]
theorem zPk (n:Int) (h0:-9223372036854775808<=n) (h1:n<=9223372036854775807):∃s,zCW n (Int.ofNat 10)=some (.str s)/\s.length<=21:=by
 refine ⟨(Lib.itoa n).map UInt8.toNat,?_,?_⟩
 ·show (match ((Int.ofNat 10==10)&&decide (-9223372036854775808<=n/\n<=9223372036854775807)) with | true=>some (AV.str ((Lib.itoa n).map UInt8.toNat)) | false=>none)=_
  rw [decide_eq_true (⟨h0,h1⟩:-9223372036854775808<=n/\n<=9223372036854775807)];rfl
 ·rw [List.length_map];exact Lib.itoa_length_le n h0 h1
theorem zIC (s:List Nat) (c:Nat):∃n,zBv s (Int.ofNat c)=some (.int .i64 n):=⟨_,rfl⟩
theorem zNT (s:List Nat) (h:s.length<=1000):∃n v,zDl s (Int.ofNat 10) (Int.ofNat 64)=some (.tup [.int .i64 n,v])/\-9223372036854775808<=n/\n<=9223372036854775807:=by
 have hs:∀l,-9223372036854775808<=Lib.intSat 64 l/\Lib.intSat 64 l<=9223372036854775807:=fun l=>by unfold Lib.intSat;split <;> decide
 have e:Nat.ble s.length 281474976710656=true:=by rw [Nat.ble_eq];omega
 have e2:(Nat.ble s.length 281474976710656&&(Int.ofNat 10==10&&Int.ofNat 64==64))=true:=by rw [e];rfl
 unfold zDl zCo zM5;simp only [e2];cases hp:Lib.parseIntB 64 (s.map UInt8.ofNat) with
 | ok v=>
  have hb:=Lib.parseIntB_bounds hp;exact ⟨_,_,rfl,hb.1,Int.le_of_lt_add_one hb.2⟩
 | range=>exact ⟨_,_,rfl,hs _⟩
 | _=>exact ⟨_,_,rfl,by decide,by decide⟩
def okA (a b c d:Int):Prop:=(0<=a/\a<=1099511627776)/\(0<=b/\b<=1099511627776)/\(0<=c/\c<=1099511627776)/\(0<=d/\d<=1099511627776)
instance (a b c d:Int):Decidable (okA a b c d):=by unfold okA;infer_instance
theorem zJ2 {β:Type} {o:Option β} {x:β} (h:Wp o fun v=>v=x):o=some x:=let ⟨_,e,h⟩:=h;h▸e
theorem zL3 (a b c d:Int):zD4 a b c d=some (.int .i64 (if okA a b c d then 0 else 2)):=by
 refine zJ2 ?_
 rw [zIQ];refine zQk (zIP ..) ?_
 repeat' first | refine Wp.ite (fun _=>?_) (fun _=>?_) | refine Wp.mk ?_
 all_goals (first | rw [if_neg (by unfold okA;omega)];rfl | rw [if_pos (by unfold okA;omega)];rfl)
def zRp (a b c d a' b' c' d':Int):Prop:=a<=a'/\b<=b'/\c<=c'/\d<=d'
instance (a b c d a' b' c' d':Int):Decidable (zRp a b c d a' b' c' d'):=by unfold zRp;infer_instance
abbrev bytes (s:List Nat):List AV:=s.map fun b=>AV.int .u8 (.ofNat b)
abbrev isB (v:AV):Prop:=∃b,v=.bool b/\True
theorem zDe (s:List Nat):Wp (zAJ s) isB:=by
 have loop:∀(n i:Nat),i<=s.length->s.length-i<n->s.length<=16->Wp (zDA n (Int.ofNat (bytes s).length) (Int.ofNat i) (bytes s)) isB:=by
  intro n
  induction n with
  | zero=>intro i _ h;omega
  | succ n ih=>
   intro i hi hn hs;rw [zJ7];rw [List.length_map];refine Wp.lt (fun h=>zIg h (qk_u (zQf h) ?_)) fun _=>Wp.mk ⟨_,rfl,trivial⟩
   have next:∀b,Wp (z6 n (Int.ofNat s.length) (Int.ofNat i) b (bytes s)) isB:=fun b=>by
    rw [zJ6];refine Wp.if (fun _=>Wp.mk ⟨_,rfl,trivial⟩) fun _=>?_
    rw [z5 (by omega)]
    have:=ih (i+1) h (by omega) hs
    rwa [List.length_map] at this
   repeat' first | refine Wp.ite (fun _=>?_) (fun _=>?_) | exact next _
 rw [zL9];have j1:∀b,(b=true\/s.length<=16)->Wp (zBf s b) isB:=fun b hb=>by
  rw [zJ9];refine Wp.if (fun _=>Wp.mk ⟨_,rfl,trivial⟩) fun h=>?_
  rw [zJ8];refine loop _ 0 (Nat.zero_le _) (zAf ?_) ?_ <;> rcases hb with hb | hb <;> first | omega | (rw [hb] at h;cases h)
 refine Wp.ite (fun _=>j1 _ (.inl rfl)) fun h1=>Wp.ite (fun _=>j1 _ (.inl rfl)) fun h2=>?_
 rw [Int.ofNat_eq_natCast] at h1 h2;have hl:0<s.length:=by omega
 have hx:ixN s 0=some s[0]:=zBL hl;rw [hx];refine Wp.ite (fun _=>j1 _ (.inl rfl)) fun h1=>j1 _ (.inr (by omega))
theorem zIi (c:Int):zBr c=some (.bool (decide (48<=c/\c<=57))):=by
 rw [zLK];refine zJ2 (Wp.ite (fun h=>Wp.mk ?_) fun h=>Wp.mk ?_)
 ·congr 1;exact decide_eq_decide.2 (by omega)
 ·congr 1;exact (decide_eq_false (by omega)).symm
theorem zHg (c:Nat):Wp (zCI (Int.ofNat c)) isB:=by
 rw [zKU,zKT,zIi];have hl:Wp (br (decide (IntKind.wrap IntKind.u8 ↑(BitVec.toNat (BitVec.ofInt (IntKind.bits IntKind.u8) (Int.ofNat c) ||| BitVec.ofInt (IntKind.bits IntKind.u8) 32))>=97)) (some (AV.bool (decide (IntKind.wrap IntKind.u8 ↑(BitVec.toNat (BitVec.ofInt (IntKind.bits IntKind.u8) (Int.ofNat c) ||| BitVec.ofInt (IntKind.bits IntKind.u8) 32))<=122)))) (some (AV.bool false))) isB:=by
  refine Wp.ite (fun _=>Wp.mk ⟨_,rfl,trivial⟩) fun _=>Wp.mk ⟨_,rfl,trivial⟩
 refine wk_b hl fun b _=>Wp.if (fun _=>Wp.mk ⟨_,rfl,trivial⟩) fun _=>qk_b rfl (Wp.if (fun _=>Wp.mk ⟨_,rfl,trivial⟩) fun _=>?_)
 obtain ⟨n,hn⟩:=zIC [45,95,46] c;exact qk_i hn (Wp.mk ⟨_,rfl,trivial⟩)
end Go.Proofs.YtdeeimaahdgeaaaGreatDoor.spec
namespace Go.Proofs.YtdeeimaahdgeaaaGreatDoor.spec
open Go Go.Sy
variable [MX]
abbrev isE (v:AV):Prop:=∃n,v=.int .i64 n/\True
theorem zHH {n k:Nat} (h:n<=2000001) (hk:k<=200):n*k<=zf/\n<=zf:=by
 have:n*k<=2000001*200:=Nat.mul_le_mul h hk;unfold zf;omega
end Go.Proofs.YtdeeimaahdgeaaaGreatDoor.spec
namespace Go.Proofs.YtdeeimaahdgeaaaGreatDoor.spec
open Go Go.Sy
variable [MX]
abbrev ndAV (k:Int) (s t:List Nat) (n l r:Int):AV:=.agg [.int .i64 k,.str s,.str t,.int .i64 n,.int .i64 l,.int .i64 r]
def Nds (es:List AV):Prop:=(∀e∈es,∃k s t n l r,e=ndAV k s t n l r/\-9223372036854775808<=n/\n<=9223372036854775807/\s.length<=2000000/\t.length<=2000000)/\es.length<=2000000
theorem Nds.at {β:Type} {P:β->Prop} {wk:Bool} {es:List AV} (h:Nds es) {i:Nat} (hi:i<es.length) {f:Int->List Nat->List Nat->Int->Int->Int->Option β} (k:∀kd s t n l r,es[i]=ndAV kd s t n l r->-9223372036854775808<=n->n<=9223372036854775807->Wp (f kd s t n l r) P):Wp (dK wk [K.agg 6,K.i IntKind.i64,K.s,K.s,K.i IntKind.i64,K.i IntKind.i64,K.i IntKind.i64] (ixN es (Int.ofNat i)) f) P:=by
 obtain ⟨kd,s,t,n,l,r,he,h1,h2,_⟩:=h.1 _ (List.getElem_mem hi);exact zCR ((zBL hi).trans (congrArg some he)) (k _ _ _ _ _ _ he h1 h2)
theorem zJx (es fs:List AV) (h:Nds es) (h':Nds fs):Wp (zO es fs) isB:=by
 have loop:es.length=fs.length->∀(n i:Nat),i<=es.length->es.length-i<n->Wp (zJ n es fs (Int.ofNat es.length) (Int.ofNat i)) isB:=by
  intro hl n
  induction n with
  | zero=>intro i _ h;omega
  | succ n ih=>
   intro i hi hn;rw [zC1];refine Wp.lt (fun hlt=>h.at hlt fun _ _ _ _ _ _ _ _ _=>h'.at (hl▸hlt) fun _ _ _ _ _ _ _ _ _=>Wp.if (fun _=>Wp.mk ⟨_,rfl,trivial⟩) fun _=>?_) fun _=>Wp.mk ⟨_,rfl,trivial⟩
   rw [z5 (by have:=h.2;omega)]
   exact ih (i+1) hlt (by omega)
 rw [zDE];refine Wp.if (fun _=>Wp.mk ⟨_,rfl,trivial⟩) fun e=>loop ?_ _ 0 (Nat.zero_le _) (zAf (by have:=h.2;omega))
 have e:(es.length:Int)=fs.length:=by simpa using e
 exact Int.ofNat_inj.1 e
end Go.Proofs.YtdeeimaahdgeaaaGreatDoor.spec
namespace Go.Proofs.YtdeeimaahdgeaaaGreatDoor.spec
open Go Go.Sy
variable [MX]
structure PS where
 s:List Nat
 i:Int
 dp:Int
 n:Int
 e:Int
 fa:Int
 l:List AV
abbrev outS (v:AV) (q:PS):AV×Heap×Vecs:=(v,[(0,HO.cells false [.str q.s,.int .i64 q.i,.int .i64 q.dp,.int .i64 q.n,AV.sym 0,.int .i64 q.e,.int .i64 q.fa])],[(0,VI.vec 6 q.l)])
section
variable {β:Type} {wk:Bool} {P:β->Prop} {o:Option (AV×Heap×Vecs)}
theorem wdU {f:List Nat->Int->Int->Int->Int->Int->List AV->Option β} {R:PS->Prop} (h:Wp o fun v=>∃q,v=outS (.tup []) q/\R q) (k:∀q,R q->Wp (f q.s q.i q.dp q.n q.e q.fa q.l) P):Wp (dD wk [D.v (K.tup 0),D.hc 0 false 7,D.v K.s,D.v (K.i IntKind.i64),D.v (K.i IntKind.i64),D.v (K.i IntKind.i64),D.v (K.c (AV.sym 0)),D.v (K.i IntKind.i64),D.v (K.i IntKind.i64),D.vec 0 6] o f) P:=by
 obtain ⟨v,rfl,q,rfl,h⟩:=h;exact k q h
theorem wdB {f:Bool->List Nat->Int->Int->Int->Int->Int->List AV->Option β} {R:Bool->PS->Prop} (h:Wp o fun v=>∃b q,v=outS (.bool b) q/\R b q) (k:∀b q,R b q->Wp (f b q.s q.i q.dp q.n q.e q.fa q.l) P):Wp (dD wk [D.v K.b,D.hc 0 false 7,D.v K.s,D.v (K.i IntKind.i64),D.v (K.i IntKind.i64),D.v (K.i IntKind.i64),D.v (K.c (AV.sym 0)),D.v (K.i IntKind.i64),D.v (K.i IntKind.i64),D.vec 0 6] o f) P:=by
 obtain ⟨v,rfl,b,q,rfl,h⟩:=h;exact k b q h
theorem wdI {f:Int->List Nat->Int->Int->Int->Int->Int->List AV->Option β} {R:Int->PS->Prop} (h:Wp o fun v=>∃b q,v=outS (.int .i64 b) q/\R b q) (k:∀b q,R b q->Wp (f b q.s q.i q.dp q.n q.e q.fa q.l) P):Wp (dD wk [D.v (K.i IntKind.i64),D.hc 0 false 7,D.v K.s,D.v (K.i IntKind.i64),D.v (K.i IntKind.i64),D.v (K.i IntKind.i64),D.v (K.c (AV.sym 0)),D.v (K.i IntKind.i64),D.v (K.i IntKind.i64),D.vec 0 6] o f) P:=by
 obtain ⟨v,rfl,b,q,rfl,h⟩:=h;exact k b q h
theorem wdS {f:List Nat->List Nat->Int->Int->Int->Int->Int->List AV->Option β} {R:List Nat->PS->Prop} (h:Wp o fun v=>∃b q,v=outS (.str b) q/\R b q) (k:∀b q,R b q->Wp (f b q.s q.i q.dp q.n q.e q.fa q.l) P):Wp (dD wk [D.v K.s,D.hc 0 false 7,D.v K.s,D.v (K.i IntKind.i64),D.v (K.i IntKind.i64),D.v (K.i IntKind.i64),D.v (K.c (AV.sym 0)),D.v (K.i IntKind.i64),D.v (K.i IntKind.i64),D.vec 0 6] o f) P:=by
 obtain ⟨v,rfl,b,q,rfl,h⟩:=h;exact k b q h
end
def PS.nf (p:PS):Prop:=p.e=0/\p.fa=0
def WFn (j:Nat) (v:AV):Prop:=∃k s t n a b,v=nd6 k s t n a b/\(-9223372036854775808<=n/\n<=9223372036854775807)/\s.length<=24/\t.length<=32 ∧
 (k=7->∃a':Nat,a=Int.ofNat a'/\a'<j)/\(k=8\/k=9->∃a' b':Nat,a=Int.ofNat a'/\b=Int.ofNat b'/\a'<b'/\b'<j)
def WF (l:List AV):Prop:=∀j v,l[j]? = some v->WFn j v
structure Inv (p:PS):Prop where
 i0:0<=p.i
 i1:p.i<=p.s.length
 big:p.s.length<=1024
 ok:p.nf->0<=p.dp/\p.dp<=32/\(p.l.length:Int)<=p.n/\p.n<=64/\WF p.l
structure Stp (k:Int) (p q:PS):Prop where
 s:q.s=p.s
 i:p.i<=q.i
 nf:q.nf->p.nf/\q.dp=p.dp/\q.n-q.l.length=p.n-p.l.length+k/\p.l.length<=q.l.length
theorem Stp.trans {a b:Int} {p q r:PS} (h:Stp a p q) (k:Stp b q r):Stp (a+b) p r:=⟨k.s.trans h.s,Int.le_trans h.i k.i,fun hr=>by
 obtain ⟨q1,q2,q3,q4⟩:=k.nf hr;obtain ⟨p1,p2,p3,p4⟩:=h.nf q1;exact ⟨p1,q2.trans p2,by omega,Nat.le_trans p4 q4⟩⟩
theorem Stp.trans0 {p q r:PS} {b:Int} (h:Stp 0 p q) (k:Stp b q r):Stp b p r:=by have:=h.trans k;rwa [Int.zero_add] at this
theorem mv {p:PS} (h:Inv p) {i:Int} (h1:p.i<=i) (h2:i<=p.s.length):Inv { p with i:=i }/\Stp 0 p { p with i:=i }:=⟨⟨Int.le_trans h.i0 h1,h2,h.big,fun hn=>h.ok hn⟩,rfl,h1,fun hn=>⟨hn,rfl,by show p.n-p.l.length=_;omega,Nat.le_refl _⟩⟩
theorem zLD {p:PS}:(p.e==0&&p.fa==0)=true↔p.nf:=by unfold PS.nf;simp
theorem zKO {p:PS} (h:(!(p.e==0&&p.fa==0))=true):¬p.nf:=fun hn=>by rw [zLD.2 hn] at h;cases h
theorem zJ3 {p:PS} (h:(!(p.e==0&&p.fa==0))=false):p.nf:=zLD.1 (by revert h;cases (p.e==0&&p.fa==0) <;> simp)
theorem zDf (p:PS) (h:Inv p):Wp (zy p.s p.i p.dp p.n p.e p.fa p.l) fun v=>∃q,v=outS (.tup []) q/\Inv q/\Stp 0 p q/\q.l=p.l:=by
 have big:=h.big;have loop:∀(n:Nat) (i:Int),p.i<=i->i<=p.s.length->p.s.length-i<n->Wp (zAz n p.s i p.dp p.n p.e p.fa p.l) fun v=>∃q,v=outS (.tup []) q/\Inv q/\Stp 0 p q/\q.l=p.l:=by
  intro n
  induction n with
  | zero=>intro i _ _ h;omega
  | succ n ih=>
   intro i h1 h2 hn;have i0:=h.i0;obtain ⟨j,rfl⟩:=Int.eq_ofNat_of_zero_le (Int.le_trans i0 h1);have fin:∃q,outS (.tup []) { p with i:=(j:Int) }=outS (.tup []) q/\Inv q/\Stp 0 p q/\q.l=p.l:=⟨{ p with i:=(j:Int) },rfl,(mv h h1 h2).1,(mv h h1 h2).2,rfl⟩
   rw [zFo];refine Wp.lt (i:=j) (fun hlt=>?_) fun _=>Wp.mk fin
   show Wp (bd (ixN p.s (Int.ofNat j)) _) _
   rw [zBL hlt];refine Wp.if (fun _=>?_) fun _=>Wp.mk fin
   rw [zFn,zK (by omega) (by omega)]
   exact ih _ (by omega) (by omega) (by omega)
 rw [zGI];exact loop _ _ (Int.le_refl _) h.i1 (by have:=h.i0;have:=zAf (n:=1025) (by omega);omega)
theorem zQm (t u:List Nat):∃b,zBw t u=some (.bool b)/\(b=true->u.length<=t.length):=by
 have:Wp (zBw t u) fun v=>∃b,v=.bool b/\(b=true->u.length<=t.length):=by
  rw [zHq];refine wk_b (R:=fun b=>b=true->u.length<=t.length) ?_ fun b hb=>Wp.mk ⟨_,rfl,hb⟩
  rw [zDB];refine Wp.ite (fun hl=>Wp.gd ⟨Int.natCast_nonneg _,hl⟩ (Wp.mk ⟨_,rfl,fun _=>Int.ofNat_le.1 hl⟩)) fun _=>Wp.mk ⟨_,rfl,fun h=>(by cases h)⟩
 obtain ⟨v,e,b,rfl,h⟩:=this;exact ⟨b,e,h⟩
theorem zDV (p:PS) (h:Inv p) (t:List Nat) (ht:t.length<=2):Wp (zq t p.s p.i p.dp p.n p.e p.fa p.l) fun v=>∃b q,v=outS (.bool b) q/\Inv q/\Stp 0 p q/\(b=true->p.i+t.length<=q.i)/\q.l=p.l:=by
 rw [zIM];refine wdU (zDf p h) fun q hq=>Wp.gd ⟨hq.1.i0,hq.1.i1⟩ ?_
 obtain ⟨b,hb,hl⟩:=zQm (List.drop (Int.toNat q.i) (List.take (Int.toNat (Int.ofNat q.s.length)) q.s)) t;refine qk_b hb (Wp.if (fun hb=>Wp.mk ⟨false,q,rfl,hq.1,hq.2.1,fun h=>(by cases h),hq.2.2⟩) fun hb=>?_)
 have hb:b=true:=by simpa using hb
 have hl:=hl hb;rw [List.length_drop,List.length_take] at hl;have e1:Int.toNat (Int.ofNat q.s.length)=q.s.length:=rfl;have i0:=hq.1.i0;have i1:=hq.1.i1;have big:=hq.1.big;have st:=hq.2.1.i;rw [e1,Nat.min_self] at hl;rw [Int.ofNat_eq_natCast,zK (by omega) (by omega)]
 have m:=mv hq.1 (i:=q.i+t.length) (by omega) (by omega)
 exact Wp.mk ⟨true,{ q with i:=q.i+t.length },rfl,m.1,hq.2.1.trans m.2,fun _=>by show _<=q.i+(t.length:Int);omega,hq.2.2⟩
structure Inv0 (p:PS):Prop where
 i0:0<=p.i
 i1:p.i<=p.s.length
 big:p.s.length<=1024
theorem Inv.z {p:PS} (h:Inv p):Inv0 p:=⟨h.i0,h.i1,h.big⟩
theorem Stp.bad {p q:PS} {k:Int} (hs:q.s=p.s) (hi:p.i<=q.i) (hn:¬q.nf):Stp k p q:=⟨hs,hi,fun h=>absurd h hn⟩
theorem Inv0.bad {q:PS} (h:Inv0 q) (hn:¬q.nf):Inv q:=⟨h.i0,h.i1,h.big,fun h=>absurd h hn⟩
theorem zBW (e i:Int) (he:e≠0) (p:PS) (h:Inv0 p):Wp (zo e i p.s p.i p.dp p.n p.e p.fa p.l) fun v=>∃q,v=outS (.tup []) q/\Inv q/\q.s=p.s/\q.i=p.i/\¬q.nf:=by
 rw [zHr];refine Wp.if (fun hn=>?_) fun hn=>?_
 ·exact Wp.mk ⟨{ p with e:=e,fa:=i },rfl,⟨h.i0,h.i1,h.big,fun hn=>absurd hn.1 he⟩,rfl,rfl,fun hn=>he hn.1⟩
 ·have hn:¬p.nf:=fun hq=>by have hn:(p.e==0&&p.fa==0)=false:=hn;rw [zLD.2 hq] at hn;cases hn
  exact Wp.mk ⟨p,rfl,h.bad hn,rfl,rfl,hn⟩
theorem zGl (i:Int) (p:PS) (h:Inv p):Wp (zV i p.s p.i p.dp p.n p.e p.fa p.l) fun v=>∃q,v=outS (.tup []) q/\Inv q/\Stp 1 p q/\(q.nf->q.l=p.l):=by
 rw [zHs];refine Wp.ite (fun hgt=>?_) fun hle=>?_
 ·refine wdU (zBW (Int.ofNat 3) i (by decide) { p with n:=wrapx .i64 (p.n+1) } ⟨h.i0,h.i1,h.big⟩) fun q hq=>Wp.mk ⟨q,rfl,hq.1,.bad hq.2.1 (by rw [hq.2.2.1];exact Int.le_refl _) hq.2.2.2,fun hn=>absurd hn hq.2.2.2⟩
 ·by_cases hn:p.nf
  ·obtain ⟨d0,d1,l1,n1,w⟩:=h.ok hn;rw [zK (by omega) (by omega)] at hle ⊢
   exact Wp.mk ⟨{ p with n:=p.n+1 },rfl,⟨h.i0,h.i1,h.big,fun _=>⟨d0,d1,by show (p.l.length:Int)<=p.n+1;omega,by show p.n+1<=64;omega,w⟩⟩,⟨rfl,Int.le_refl _,fun _=>⟨hn,rfl,by show p.n+1-p.l.length=p.n-p.l.length+1;omega,Nat.le_refl _⟩⟩,fun _=>rfl⟩
  ·exact Wp.mk ⟨{ p with n:=wrapx .i64 (p.n+1) },rfl,Inv0.bad ⟨h.i0,h.i1,h.big⟩ hn,.bad rfl (Int.le_refl _) hn,fun h=>absurd h hn⟩
structure In (b:Bool) (p q:PS):Prop where
 s:q.s=p.s
 i:q.i=p.i
 nf:q.nf->b=true/\p.nf/\q.dp=p.dp+1/\q.n=p.n/\q.l=p.l
theorem zRq (i:Int) (p:PS) (h:Inv p):Wp (zCs i p.s p.i p.dp p.n p.e p.fa p.l) fun v=>∃b q,v=outS (.bool b) q/\Inv q/\In b p q:=by
 rw [zIN];refine Wp.ite (fun hgt=>?_) fun hle=>?_
 ·refine wdU (zBW (Int.ofNat 3) i (by decide) { p with dp:=wrapx .i64 (p.dp+1) } ⟨h.i0,h.i1,h.big⟩) fun q hq=>Wp.mk ⟨false,q,rfl,hq.1,hq.2.1,hq.2.2.1,fun hn=>absurd hn hq.2.2.2⟩
 ·by_cases hn:p.nf
  ·obtain ⟨d0,d1,l1,n1,w⟩:=h.ok hn;rw [zK (by omega) (by omega)] at hle ⊢
   exact Wp.mk ⟨true,{ p with dp:=p.dp+1 },rfl,⟨h.i0,h.i1,h.big,fun _=>⟨by show 0<=p.dp+1;omega,by show p.dp+1<=32;omega,l1,n1,w⟩⟩,rfl,rfl,fun _=>⟨rfl,hn,rfl,rfl,rfl⟩⟩
  ·exact Wp.mk ⟨true,{ p with dp:=wrapx .i64 (p.dp+1) },rfl,Inv0.bad ⟨h.i0,h.i1,h.big⟩ hn,rfl,rfl,fun h=>absurd h hn⟩
def Res (p q:PS) (x:Int):Prop:=q.nf->x=(q.l.length:Int)-1/\p.l.length<q.l.length
theorem zOJ (p:PS) (h:Inv p) (k:Int) (s t:List Nat) (n a b:Int) (hx:p.nf->(p.l.length:Int)+1<=p.n) (hw:p.nf->WFn p.l.length (nd6 k s t n a b)):Wp (zH k s t n a b p.s p.i p.dp p.n p.e p.fa p.l) fun v=>∃x q,v=outS (.int .i64 x) q/\Inv q/\Stp (-1) p q/\Res p q x:=by
 rw [zHU];refine Wp.if (fun hn=>?_) fun hn=>?_
 ·have hn:¬p.nf:=zKO hn;exact Wp.mk ⟨_,p,rfl,h,.bad rfl (Int.le_refl _) hn,fun h=>absurd h hn⟩
 ·have hn:p.nf:=zJ3 hn;obtain ⟨d0,d1,l1,n1,w⟩:=h.ok hn;have hx:=hx hn;have hw:=hw hn;have hl:p.l.length<=63:=by omega
  refine Wp.gd ?_ (Wp.mk ⟨_,{ p with l:=p.l++[nd6 k s t n a b] },rfl,⟨h.i0,h.i1,h.big,fun _=>⟨d0,d1,?_,n1,?_⟩⟩,⟨rfl,Int.le_refl _,fun _=>⟨hn,rfl,?_,?_⟩⟩,fun _=>⟨?_,?_⟩⟩)
  ·show (p.l.length+1)*64<=zf/\p.l.length+1<=zf
   unfold zf;omega
  ·show ((p.l++[_]).length:Int)<=p.n
   rw [List.length_append];show ((p.l.length+1:Nat):Int)<=p.n;omega
  ·intro j v hv;show WFn j v
   have hv:(p.l++[nd6 k s t n a b])[j]? = some v:=hv;by_cases hj:j<p.l.length
   ·rw [List.getElem?_append_left hj] at hv;exact w j v hv
   ·rw [List.getElem?_append_right (by omega)] at hv
    have:j=p.l.length:=by
     by_cases e:j-p.l.length=0
     ·omega
     ·rw [List.getElem?_eq_none (by show 1<=_;omega)] at hv;cases hv
    subst this;rw [Nat.sub_self] at hv;cases hv;exact hw
  ·show p.n-((p.l++[_]).length:Int)=p.n-p.l.length+-1
   rw [List.length_append];show p.n-((p.l.length+1:Nat):Int)=_;omega
  ·show p.l.length<=(p.l++[_]).length
   rw [List.length_append];omega
  ·show wrapx .i64 (Int.ofNat (p.l++[nd6 k s t n a b]).length-1)=((p.l++[nd6 k s t n a b]).length:Int)-1
   rw [List.length_append];show wrapx .i64 (Int.ofNat (p.l.length+1)-1)=((p.l.length+1:Nat):Int)-1
   rw [zDy (by omega) (by omega),Int.ofNat_eq_natCast];omega
  ·show p.l.length<(p.l++[_]).length
   rw [List.length_append];show _<p.l.length+1;omega
theorem zTg (c:Nat):Wp (zCt (Int.ofNat c)) isB:=by
 rw [zGJ]
 repeat' first | refine Wp.ite (fun _=>?_) (fun _=>?_) | refine Wp.if (fun _=>?_) (fun _=>?_) | exact Wp.mk ⟨_,rfl,trivial⟩ | refine qk_b (zIi _) ?_
theorem zSs (c:Nat):Wp (zBr (Int.ofNat c)) isB:=⟨_,zIi _,_,rfl,trivial⟩
theorem zOi (m:Int) (m0:0<=m) (m1:m<=1000) (p:PS) (h:Inv p):Wp (z3 m p.s p.i p.dp p.n p.e p.fa p.l) fun v=>∃t q,v=outS (.str t) q/\Inv q/\Stp 0 p q/\(t.length:Int)<=m:=by
 have big:=h.big;have loop:∀(n:Nat) (i:Int),p.i<=i->i<=p.s.length->i-p.i<=m->p.s.length-i<n->Wp (zA n m p.i p.s i p.dp p.n p.e p.fa p.l) fun v=>∃t q,v=outS (.str t) q/\Inv q/\Stp 0 p q/\(t.length:Int)<=m:=by
  intro n
  induction n with
  | zero=>intro i _ _ _ h;omega
  | succ n ih=>
   intro i h1 h2 h3 hn;have i0:=h.i0;obtain ⟨j,rfl⟩:=Int.eq_ofNat_of_zero_le (Int.le_trans i0 h1);have fin:Wp (gd (decide (0<=p.i/\p.i<=(j:Int)/\(j:Int)<=Int.ofNat p.s.length)) (some (AV.str (List.drop (Int.toNat p.i) (List.take (Int.toNat (j:Int)) p.s)),[(0,HO.cells false [.str p.s,.int .i64 (j:Int),.int .i64 p.dp,.int .i64 p.n,AV.sym 0,.int .i64 p.e,.int .i64 p.fa])],[(0,VI.vec 6 p.l)]))) fun v=>∃t q,v=outS (.str t) q/\Inv q/\Stp 0 p q/\(t.length:Int)<=m:=by
    refine Wp.gd ⟨i0,h1,h2⟩ (Wp.mk ⟨_,{ p with i:=(j:Int) },rfl,(mv h h1 h2).1,(mv h h1 h2).2,?_⟩)
    rw [List.length_drop,List.length_take];have e:Int.toNat (j:Int)=j:=rfl;rw [e];omega
   rw [zCf];refine Wp.lt (i:=j) (fun hlt=>Wp.ite (fun hm=>?_) fun _=>fin) fun _=>fin
   show Wp (bd (ixN p.s (Int.ofNat j)) _) _
   rw [zBL hlt];rw [zK (by omega) (by omega)] at hm
   refine wk_b (zTg _) fun b _=>Wp.if (fun _=>?_) fun _=>fin
   rw [zCe,zK (by omega) (by omega)]
   exact ih _ (by omega) (by omega) (by omega) (by omega)
 rw [zCJ];exact loop _ _ (Int.le_refl _) h.i1 (by omega) (by have:=h.i0;have:=zAf (n:=1025) (by omega);omega)
theorem zOj (m:Int) (m0:0<=m) (m1:m<=1000) (p:PS) (h:Inv p):Wp (zAy m p.s p.i p.dp p.n p.e p.fa p.l) fun v=>∃t q,v=outS (.str t) q/\Inv q/\Stp 0 p q/\(t.length:Int)<=m:=by
 have big:=h.big;have loop:∀(n:Nat) (i:Int),p.i<=i->i<=p.s.length->i-p.i<=m->p.s.length-i<n->Wp (zM n m p.i p.s i p.dp p.n p.e p.fa p.l) fun v=>∃t q,v=outS (.str t) q/\Inv q/\Stp 0 p q/\(t.length:Int)<=m:=by
  intro n
  induction n with
  | zero=>intro i _ _ _ h;omega
  | succ n ih=>
   intro i h1 h2 h3 hn;have i0:=h.i0;obtain ⟨j,rfl⟩:=Int.eq_ofNat_of_zero_le (Int.le_trans i0 h1);have fin:Wp (gd (decide (0<=p.i/\p.i<=(j:Int)/\(j:Int)<=Int.ofNat p.s.length)) (some (AV.str (List.drop (Int.toNat p.i) (List.take (Int.toNat (j:Int)) p.s)),[(0,HO.cells false [.str p.s,.int .i64 (j:Int),.int .i64 p.dp,.int .i64 p.n,AV.sym 0,.int .i64 p.e,.int .i64 p.fa])],[(0,VI.vec 6 p.l)]))) fun v=>∃t q,v=outS (.str t) q/\Inv q/\Stp 0 p q/\(t.length:Int)<=m:=by
    refine Wp.gd ⟨i0,h1,h2⟩ (Wp.mk ⟨_,{ p with i:=(j:Int) },rfl,(mv h h1 h2).1,(mv h h1 h2).2,?_⟩)
    rw [List.length_drop,List.length_take];have e:Int.toNat (j:Int)=j:=rfl;rw [e];omega
   rw [zDD];refine Wp.lt (i:=j) (fun hlt=>Wp.ite (fun hm=>?_) fun _=>fin) fun _=>fin
   show Wp (bd (ixN p.s (Int.ofNat j)) _) _
   rw [zBL hlt];rw [zK (by omega) (by omega)] at hm
   refine wk_b (zHg _) fun b _=>Wp.if (fun _=>?_) fun _=>fin
   rw [zDC,zK (by omega) (by omega)]
   exact ih _ (by omega) (by omega) (by omega) (by omega)
 rw [zD5];exact loop _ _ (Int.le_refl _) h.i1 (by omega) (by have:=h.i0;have:=zAf (n:=1025) (by omega);omega)
theorem zNU (m:Int) (m0:0<=m) (m1:m<=1000) (p:PS) (h:Inv p):Wp (zAC m p.s p.i p.dp p.n p.e p.fa p.l) fun v=>∃t q,v=outS (.str t) q/\Inv q/\Stp 0 p q/\(t.length:Int)<=m:=by
 have big:=h.big;have loop:∀(n:Nat) (i:Int),p.i<=i->i<=p.s.length->i-p.i<=m->p.s.length-i<n->Wp (zS n m p.i p.s i p.dp p.n p.e p.fa p.l) fun v=>∃t q,v=outS (.str t) q/\Inv q/\Stp 0 p q/\(t.length:Int)<=m:=by
  intro n
  induction n with
  | zero=>intro i _ _ _ h;omega
  | succ n ih=>
   intro i h1 h2 h3 hn;have i0:=h.i0;obtain ⟨j,rfl⟩:=Int.eq_ofNat_of_zero_le (Int.le_trans i0 h1);have fin:Wp (gd (decide (0<=p.i/\p.i<=(j:Int)/\(j:Int)<=Int.ofNat p.s.length)) (some (AV.str (List.drop (Int.toNat p.i) (List.take (Int.toNat (j:Int)) p.s)),[(0,HO.cells false [.str p.s,.int .i64 (j:Int),.int .i64 p.dp,.int .i64 p.n,AV.sym 0,.int .i64 p.e,.int .i64 p.fa])],[(0,VI.vec 6 p.l)]))) fun v=>∃t q,v=outS (.str t) q/\Inv q/\Stp 0 p q/\(t.length:Int)<=m:=by
    refine Wp.gd ⟨i0,h1,h2⟩ (Wp.mk ⟨_,{ p with i:=(j:Int) },rfl,(mv h h1 h2).1,(mv h h1 h2).2,?_⟩)
    rw [List.length_drop,List.length_take];have e:Int.toNat (j:Int)=j:=rfl;rw [e];omega
   rw [zDM];refine Wp.lt (i:=j) (fun hlt=>Wp.ite (fun hm=>?_) fun _=>fin) fun _=>fin
   show Wp (bd (ixN p.s (Int.ofNat j)) _) _
   rw [zBL hlt];rw [zK (by omega) (by omega)] at hm
   refine wk_b (zSs _) fun b _=>Wp.if (fun _=>?_) fun _=>fin
   rw [zDL,zK (by omega) (by omega)]
   exact ih _ (by omega) (by omega) (by omega) (by omega)
 rw [zEk];exact loop _ _ (Int.le_refl _) h.i1 (by omega) (by have:=h.i0;have:=zAf (n:=1025) (by omega);omega)
end Go.Proofs.YtdeeimaahdgeaaaGreatDoor.spec
namespace Go.Proofs.YtdeeimaahdgeaaaGreatDoor.spec
open Go Go.Sy
variable [MX]
theorem zKr (s:List Nat) (h:s.length<=1000):Wp (zDW s) fun v=>∃n,v=.int .i64 n/\(-9223372036854775808<=n/\n<=9223372036854775807):=by
 rw [zKV];obtain ⟨n,v,e,h0,h1⟩:=zNT s h;exact zSn e (Wp.mk ⟨n,rfl,h0,h1⟩)
theorem zOK (p:PS) (h:Inv p):Wp (zBO p.s p.i p.dp p.n p.e p.fa p.l) fun v=>∃t q,v=outS (.str t) q/\Inv q/\Stp 0 p q/\t.length<=32:=by
 rw [zHV];refine wdU (zDf p h) fun q hq=>wdS (zOj (Int.ofNat 32) (by decide) (by decide) q hq.1) fun t r hr=>?_
 have hl:t.length<=32:=by have:=hr.2.2;rw [Int.ofNat_eq_natCast] at this;omega
 refine Wp.if (fun _=>wdU (zBW _ _ (by decide) r hr.1.z) fun u hu=>Wp.mk ⟨t,u,rfl,hu.1,?_,hl⟩) fun _=>Wp.mk ⟨t,r,rfl,hr.1,hq.2.1.trans0 hr.2.1,hl⟩
 have:=hq.2.1.trans0 hr.2.1;exact .bad (hu.2.1.trans this.s) (by rw [hu.2.2.1];exact this.i) hu.2.2.2
theorem zMK (p:PS) (h:Inv p):Wp (zA7 p.s p.i p.dp p.n p.e p.fa p.l) fun v=>∃x q,v=outS (.int .i64 x) q/\Inv q/\Stp 0 p q/\(-9223372036854775808<=x/\x<=9223372036854775807):=by
 rw [zGK];refine wdU (zDf p h) fun q hq=>wdS (zNU (Int.ofNat 12) (by decide) (by decide) q hq.1) fun t r hr=>?_
 have hl:t.length<=1000:=by have:=hr.2.2;rw [Int.ofNat_eq_natCast] at this;omega
 refine Wp.if (fun _=>wdU (zBW _ _ (by decide) r hr.1.z) fun u hu=>wk_i (zKr t hl) fun x hx=>Wp.mk ⟨x,u,rfl,hu.1,?_,hx⟩) fun _=>wk_i (zKr t hl) fun x hx=>Wp.mk ⟨x,r,rfl,hr.1,hq.2.1.trans0 hr.2.1,hx⟩
 have:=hq.2.1.trans0 hr.2.1;exact .bad (hu.2.1.trans this.s) (by rw [hu.2.2.1];exact this.i) hu.2.2.2
def Post (p:PS) (v:AV×Heap×Vecs):Prop:=∃x q,v=outS (.int .i64 x) q/\Inv q/\Stp 0 p q/\Res p q x
theorem Post.bad {p q:PS} (hi:Inv q) (hs:q.s=p.s) (hle:p.i<=q.i) (hn:¬q.nf) (x:Int):Post p (outS (.int .i64 x) q):=⟨x,q,rfl,hi,.bad hs hle hn,fun h=>absurd h hn⟩
theorem Res.of {a:Int} {p q r:PS} {x:Int} (h:Stp a p q) (k:Res q r x) (hs:Stp (-1) q r):Res p r x:=fun hr=>by
 obtain ⟨k1,k2⟩:=k hr;have:=(h.nf (hs.nf hr).1).2.2.2;exact ⟨k1,by omega⟩
theorem zL4 (p q:PS) (hp:Inv p) (hq:Inv q) (h:Stp 1 p q) (k:Int) (s t:List Nat) (n a b:Int) (hw:q.nf->WFn q.l.length (nd6 k s t n a b)):Wp (zH k s t n a b q.s q.i q.dp q.n q.e q.fa q.l) (Post p):=by
 refine (zOJ q hq k s t n a b (fun hn=>?_) hw).mono fun v hv=>?_
 ·obtain ⟨p1,p2,p3,p4⟩:=h.nf hn;have:=(hp.ok p1).2.2.1;omega
 ·obtain ⟨x,r,rfl,h1,h2,h3⟩:=hv;exact ⟨x,r,rfl,h1,h.trans h2,Res.of h h3 h2⟩
theorem WFn.leaf {j:Nat} {k n:Int} {s t:List Nat} (hn:-9223372036854775808<=n/\n<=9223372036854775807) (hs:s.length<=24) (ht:t.length<=32) (h:k<=6):WFn j (nd6 k s t n (Int.negSucc 0) (Int.negSucc 0)):=⟨k,s,t,n,_,_,rfl,hn,hs,ht,fun e=>by omega,fun e=>by omega⟩
theorem zF3 (p q:PS) (hp:Inv p) (hq:Inv q) (h:Stp 1 p q) (k:Int) (s t:List Nat) (n:Int) (hn:-9223372036854775808<=n/\n<=9223372036854775807) (hs:s.length<=24) (ht:t.length<=32) (hk:k<=6):Wp (zE q.s q.i q.dp q.n q.e q.fa k s t n (Int.negSucc 0) (Int.negSucc 0) q.l) (Post p):=by
 rw [zGy];refine wdI (R:=fun x r=>Inv r/\Stp 0 p r/\Res p r x) ((zL4 p q hp hq h k s t n _ _ fun _=>WFn.leaf hn hs ht hk).mono fun v hv=>?_) fun x r hr=>Wp.mk ⟨x,r,rfl,hr⟩
 obtain ⟨x,r,rfl,hr⟩:=hv;exact ⟨x,r,rfl,hr⟩
theorem zL5 (p q:PS) (hp:Inv p) (hq:Inv q) (h:Stp 1 p q) (b:Bool) (k:Int) (s t:List Nat) (n:Int) (hn:-9223372036854775808<=n/\n<=9223372036854775807) (hs:s.length<=24) (ht:t.length<=32) (hk:k<=6):Wp (zAk b q.s q.i q.dp q.n q.e q.fa k s t n (Int.negSucc 0) (Int.negSucc 0) q.l) (Post p):=by
 rw [zGz];refine Wp.if (fun _=>wdU (zBW _ _ (by decide) q hq.z) fun r hr=>zF3 p r hp hr.1 (.bad (hr.2.1.trans h.s) (by rw [hr.2.2.1];exact h.i) hr.2.2.2) k s t n hn hs ht hk) fun _=>zF3 p q hp hq h k s t n hn hs ht hk
theorem z64:(-9223372036854775808:Int)<=Int.ofNat 0/\Int.ofNat 0<=(9223372036854775807:Int):=by decide
theorem zSt (p q:PS) (hp:Inv p) (hq:Inv q) (h:Stp 0 p q) (i:Int) (s:List Nat) (hs:s.length<=24):Wp (zCa i s q.s q.i q.dp q.n q.e q.fa q.l) (Post p):=by
 rw [zGA];refine wdU (zGl i q hq) fun r hr=>?_
 have st:Stp 1 p r:=h.trans0 hr.2.1;have nx:∀{u v:PS},Stp 1 p u->Stp 0 u v->Stp 1 p v:=fun a b=>a.trans b
 refine wdB (zDV r hr.1 _ (by decide)) fun b u hu=>Wp.if (fun _=>wdS (zOK u hu.1) fun t v hv=>zF3 p v hp hv.1 (nx (nx st hu.2.1) hv.2.1) _ s t _ z64 hs hv.2.2 (by decide)) fun _=>?_
 have st:=nx st hu.2.1;refine wdB (zDV u hu.1 _ (by decide)) fun b r hr=>Wp.if (fun _=>wdI (zMK r hr.1) fun t v hv=>zF3 p v hp hv.1 (nx (nx st hr.2.1) hv.2.1) _ s [] _ hv.2.2 hs (by decide) (by decide)) fun _=>?_
 have st:=nx st hr.2.1;refine wdB (zDV r hr.1 _ (by decide)) fun b u hu=>Wp.if (fun _=>wdI (zMK u hu.1) fun t v hv=>zF3 p v hp hv.1 (nx (nx st hu.2.1) hv.2.1) _ s [] _ hv.2.2 hs (by decide) (by decide)) fun _=>?_
 have st:=nx st hu.2.1;refine wdB (zDV u hu.1 _ (by decide)) fun b r hr=>Wp.if (fun _=>wdS (zOK r hr.1) fun t v hv=>zF3 p v hp hv.1 (nx (nx st hr.2.1) hv.2.1) _ s t _ z64 hs hv.2.2 (by decide)) fun _=>?_
 have st:=nx st hr.2.1;refine wdB (zDV r hr.1 _ (by decide)) fun b u hu=>Wp.if (fun _=>zL5 p u hp hu.1 (nx st hu.2.1) _ _ s [] _ z64 hs (by decide) (by decide)) fun _=>?_
 have st:=nx st hu.2.1;refine wdB (zDV u hu.1 _ (by decide)) fun b r hr=>Wp.if (fun _=>zL5 p r hp hr.1 (nx st hr.2.1) _ _ s [] _ z64 hs (by decide) (by decide)) fun _=>?_
 have st:=nx st hr.2.1;exact wdB (zDV r hr.1 _ (by decide)) fun b u hu=>zL5 p u hp hu.1 (nx st hu.2.1) _ _ s [] _ z64 hs (by decide) (by decide)
theorem zOL (p q:PS) (hp:Inv p) (hq:Inv q) (h:Stp 0 p q) (i:Int) (s:List Nat) (b:Bool) (hs:s.length<=24):Wp (zAS i s b q.s q.i q.dp q.n q.e q.fa q.l) (Post p):=by
 rw [zGB];exact Wp.if (fun _=>wdU (zBW _ _ (by decide) q hq.z) fun r hr=>Wp.mk (.bad hr.1 (hr.2.1.trans h.s) (by rw [hr.2.2.1];exact h.i) hr.2.2.2 _)) fun _=>zSt p q hp hq h i s hs
theorem zSu (p q:PS) (hp:Inv p) (hq:Inv q) (h:Stp 0 p q) (i:Int) (s:List Nat) (hs:s.length<=24):Wp (zCb i s q.s q.i q.dp q.n q.e q.fa q.l) (Post p):=by
 rw [zGC];refine Wp.ite (fun hlt=>?_) fun _=>zOL p q hp hq h i s _ hs
 obtain ⟨x,hx,_⟩:=zNO hq.i0 hlt;rw [hx];exact wk_b (zHg x) fun b _=>zOL p q hp hq h i s _ hs
theorem zL6 (p q:PS) (hp:Inv p) (hq:Inv q) (h:Stp 0 p q) (i:Int) (s:List Nat) (b:Bool) (hs:s.length<=24):Wp (zAl i s b q.s q.i q.dp q.n q.e q.fa q.l) (Post p):=by
 rw [zGF];refine Wp.if (fun _=>wdU (zGl i q hq) fun r hr=>wdI (R:=fun x r=>Inv r/\Stp 0 p r/\Res p r x) ((zL4 p r hp hr.1 (h.trans0 hr.2.1) _ _ _ _ _ _ fun _=>WFn.leaf z64 (by decide) (by decide) (by decide)).mono fun v hv=>?_) fun x r hr=>Wp.mk ⟨x,r,rfl,hr⟩) fun _=>zSu p q hp hq h i s hs
 obtain ⟨x,r,rfl,hr⟩:=hv;exact ⟨x,r,rfl,hr⟩
theorem zSv (p:PS) (hp:Inv p) (i:Int):Wp (zCc i p.s p.i p.dp p.n p.e p.fa p.l) (Post p):=by
 rw [zGD];refine wdS (zOi (Int.ofNat 24) (by decide) (by decide) p hp) fun t q hq=>?_
 have hl:t.length<=24:=by have:=hq.2.2;rw [Int.ofNat_eq_natCast] at this;omega
 refine Wp.if (fun _=>Wp.ite (fun hlt=>?_) fun _=>zL6 p q hp hq.1 hq.2.1 i t _ hl) fun _=>zL6 p q hp hq.1 hq.2.1 i t _ hl
 obtain ⟨x,hx,_⟩:=zNO hq.1.i0 hlt;rw [hx];exact wk_b (zHg x) fun b _=>zL6 p q hp hq.1 hq.2.1 i t _ hl
theorem zL7 (p:PS) (hp:Inv p) (i:Int) (b:Bool):Wp (zAm i b p.s p.i p.dp p.n p.e p.fa p.l) (Post p):=by
 rw [zGE];exact Wp.if (fun _=>wdU (zBW _ _ (by decide) p hp.z) fun r hr=>Wp.mk (.bad hr.1 hr.2.1 (by rw [hr.2.2.1];exact Int.le_refl _) hr.2.2.2 _)) fun _=>zSv p hp i
theorem zSw (p:PS) (hp:Inv p):Wp (zDm p.s p.i p.dp p.n p.e p.fa p.l) (Post p):=by
 rw [zHW];refine Wp.if (fun _=>zL7 p hp _ _) fun hne=>?_
 have hlt:p.i<Int.ofNat p.s.length:=by
  have h1:=hp.i1;have h2:¬p.i=Int.ofNat p.s.length:=by simpa using hne
  rw [Int.ofNat_eq_natCast] at h2 ⊢;omega
 obtain ⟨x,hx,_⟩:=zNO hp.i0 hlt;rw [hx];exact Wp.if (fun _=>zL7 p hp _ _) fun _=>zL7 p hp _ _
end Go.Proofs.YtdeeimaahdgeaaaGreatDoor.spec
namespace Go.Proofs.YtdeeimaahdgeaaaGreatDoor.spec
open Go Go.Sy
variable [MX]
noncomputable def PS.m (p:PS):Nat:=(Classical.propDecidable p.nf).casesOn (fun _=>0) fun _=>(33-p.dp).toNat
theorem m_nf {p:PS} (h:p.nf):p.m=(33-p.dp).toNat:=by
 unfold PS.m;cases Classical.propDecidable p.nf with
 | isTrue _=>rfl
 | isFalse h'=>exact absurd h h'
theorem zRr {p:PS} (h:¬p.nf):p.m=0:=by
 unfold PS.m;cases Classical.propDecidable p.nf with
 | isTrue h'=>exact absurd h' h
 | isFalse h'=>rfl
theorem Stp.m {k:Int} {p q:PS} (h:Stp k p q):q.m<=p.m:=by
 by_cases hn:q.nf
 ·obtain ⟨h1,h2,_⟩:=h.nf hn;rw [m_nf hn,m_nf h1,h2];exact Nat.le_refl _
 ·rw [zRr hn];exact Nat.zero_le _
theorem Stp.m0 {k:Int} {p q:PS} (h:Stp k p q) (hp:Inv p) {b:Bool} {r:PS} (hi:In b q r):5*r.m+5<=5*p.m\/¬p.nf:=by
 by_cases hn:r.nf
 ·obtain ⟨_,h1,h2,_⟩:=hi.nf hn;obtain ⟨h3,h4,_⟩:=h.nf h1;have:=hp.ok h3;rw [m_nf hn,m_nf h3]
  left
  omega
 ·by_cases hp':p.nf
  ·rw [zRr hn,m_nf hp'];have:=hp.ok hp'
   left
   omega
  ·exact .inr hp'
def SpN (d:Nat):Prop:=∀p,Inv p->5*p.m+1<=d->Wp (zA4 d p.s p.i p.dp p.n p.e p.fa p.l) (Post p)
def SpPN (d:Nat):Prop:=∀p (t:List Nat) (k:Int),Inv p->5*p.m+2<=d->1<=t.length->t.length<=2->k=8\/k=9->Wp (z8 d t k p.s p.i p.dp p.n p.e p.fa p.l) (Post p)
def SpA (d:Nat):Prop:=∀p,Inv p->5*p.m+3<=d->Wp (zB5 d p.s p.i p.dp p.n p.e p.fa p.l) (Post p)
def SpPA (d:Nat):Prop:=∀p (t:List Nat) (k:Int),Inv p->5*p.m+4<=d->1<=t.length->t.length<=2->k=8\/k=9->Wp (z7 d t k p.s p.i p.dp p.n p.e p.fa p.l) (Post p)
def SpO (d:Nat):Prop:=∀p,Inv p->5*p.m+5<=d->Wp (zCu d p.s p.i p.dp p.n p.e p.fa p.l) (Post p)
theorem Post.out {p:PS} {o:Option (AV×Heap×Vecs)} (h:Wp o (Post p)):Wp o fun v=>∃x q,v=outS (.int .i64 x) q/\(Inv q/\Stp 0 p q/\Res p q x):=h
theorem WFn.two {p q r:PS} {k x y:Int} (hk:k=8\/k=9) (hx:q.nf->x=(q.l.length:Int)-1/\p.l.length<q.l.length) (hy:r.nf->y=(r.l.length:Int)-1/\q.l.length<r.l.length) (h:r.nf->q.nf) (hr:r.nf):WFn r.l.length (nd6 k [] [] (Int.ofNat 0) x y):=by
 obtain ⟨x1,x2⟩:=hx (h hr);obtain ⟨y1,y2⟩:=hy hr;refine ⟨k,[],[],_,_,_,rfl,z64,by decide,by decide,fun e=>by omega,fun _=>⟨q.l.length-1,r.l.length-1,?_,?_,by omega,by omega⟩⟩
 ·rw [Int.ofNat_eq_natCast];omega
 ·rw [Int.ofNat_eq_natCast];omega
theorem zNV (p q:PS) (hp:Inv p) (hq:Inv q) (h:Stp 1 p q) (k:Int) (s t:List Nat) (n a b:Int) (hw:q.nf->WFn q.l.length (nd6 k s t n a b)):Wp (zH k s t n a b q.s q.i q.dp q.n q.e q.fa q.l) fun v=>∃x r,v=outS (.int .i64 x) r/\(Inv r/\Stp 0 p r/\Res p r x)/\Stp (-1) q r:=by
 refine (zOJ q hq k s t n a b (fun hn=>?_) hw).mono fun v hv=>?_
 ·obtain ⟨p1,p2,p3,p4⟩:=h.nf hn;have:=(hp.ok p1).2.2.1;omega
 ·obtain ⟨x,r,rfl,h1,h2,h3⟩:=hv;exact ⟨x,r,rfl,⟨h1,h.trans h2,Res.of h h3 h2⟩,h2⟩
theorem zQn {d:Nat} (hN:SpN d):SpPN (d+1):=by
 intro p t k hp hd t1 t2 hk;have loop:∀(n:Nat) (q:PS) (x:Int),Inv q->Stp 0 p q->Res p q x->q.s.length-q.i<n->Wp (zD d n t k x q.s q.i q.dp q.n q.e q.fa q.l) (Post p):=by
  intro n
  induction n with
  | zero=>intro q x hq _ _ h;have:=hq.i1;omega
  | succ n ih=>
   intro q x hq st hx hn;rw [zCh];refine Wp.if (fun _=>?_) fun _=>Wp.mk ⟨x,q,rfl,hq,st,hx⟩
   refine wdU (zDf q hq) fun q1 h1=>wdB (zDV q1 h1.1 t t2) fun b q2 h2=>?_
   have s2:=h1.2.1.trans0 h2.2.1;have l2:q2.l=q.l:=h2.2.2.2.trans h1.2.2;have x2:Res p q2 x:=fun hn2=>by rw [l2];exact hx (s2.nf hn2).1
   refine Wp.if (fun _=>Wp.mk ⟨x,q2,rfl,h2.1,st.trans0 s2,x2⟩) fun hb=>?_
   have hb:b=true:=by simpa using hb
   have adv:=h2.2.2.1 hb;refine wdU (zGl q1.i q2 h2.1) fun q3 h3=>?_
   have s3:=(st.trans0 s2).trans0 h3.2.1;have m3:=s3.m;refine wdI (Post.out (hN q3 h3.1 (by omega))) fun y q4 h4=>?_
   have s4:Stp 1 p q4:=s3.trans h4.2.1;refine wdI ((zNV p q4 hp h4.1 s4 k [] [] _ x y fun h4n=>WFn.two (p:=p) (q:=q2) (r:=q4) hk x2 (fun hr=>?_) (fun hr=>(h3.2.1.nf (h4.2.1.nf hr).1).1) h4n)) fun z q5 h5=>ih q5 z h5.1.1 h5.1.2.1 h5.1.2.2 ?_
   ·have:=h4.2.2 hr;rw [h3.2.2 (h4.2.1.nf hr).1] at this;exact this
   ·have e1:=((s2.trans0 h3.2.1).trans h4.2.1).trans h5.2;have:=h1.2.1.i;have:=h3.2.1.i;have:=h4.2.1.i;have:=h5.2.i;have:q5.s.length=q.s.length:=congrArg List.length e1.s;omega
 rw [zCZ];refine wdI (Post.out (hN p hp (by omega))) fun x q hq=>loop _ q x hq.1 hq.2.1 hq.2.2 ?_
 have:=hq.1.i0;have:=hq.1.big;have:=zAf (n:=1025) (by omega);omega
theorem zQo {d:Nat} (hN:SpA d):SpPA (d+1):=by
 intro p t k hp hd t1 t2 hk;have loop:∀(n:Nat) (q:PS) (x:Int),Inv q->Stp 0 p q->Res p q x->q.s.length-q.i<n->Wp (zC d n t k x q.s q.i q.dp q.n q.e q.fa q.l) (Post p):=by
  intro n
  induction n with
  | zero=>intro q x hq _ _ h;have:=hq.i1;omega
  | succ n ih=>
   intro q x hq st hx hn;rw [zCg];refine Wp.if (fun _=>?_) fun _=>Wp.mk ⟨x,q,rfl,hq,st,hx⟩
   refine wdU (zDf q hq) fun q1 h1=>wdB (zDV q1 h1.1 t t2) fun b q2 h2=>?_
   have s2:=h1.2.1.trans0 h2.2.1;have l2:q2.l=q.l:=h2.2.2.2.trans h1.2.2;have x2:Res p q2 x:=fun hn2=>by rw [l2];exact hx (s2.nf hn2).1
   refine Wp.if (fun _=>Wp.mk ⟨x,q2,rfl,h2.1,st.trans0 s2,x2⟩) fun hb=>?_
   have hb:b=true:=by simpa using hb
   have adv:=h2.2.2.1 hb;refine wdU (zGl q1.i q2 h2.1) fun q3 h3=>?_
   have s3:=(st.trans0 s2).trans0 h3.2.1;have m3:=s3.m;refine wdI (Post.out (hN q3 h3.1 (by omega))) fun y q4 h4=>?_
   have s4:Stp 1 p q4:=s3.trans h4.2.1;refine wdI ((zNV p q4 hp h4.1 s4 k [] [] _ x y fun h4n=>WFn.two (p:=p) (q:=q2) (r:=q4) hk x2 (fun hr=>?_) (fun hr=>(h3.2.1.nf (h4.2.1.nf hr).1).1) h4n)) fun z q5 h5=>ih q5 z h5.1.1 h5.1.2.1 h5.1.2.2 ?_
   ·have:=h4.2.2 hr;rw [h3.2.2 (h4.2.1.nf hr).1] at this;exact this
   ·have e1:=((s2.trans0 h3.2.1).trans h4.2.1).trans h5.2;have:=h1.2.1.i;have:=h3.2.1.i;have:=h4.2.1.i;have:=h5.2.i;have:q5.s.length=q.s.length:=congrArg List.length e1.s;omega
 rw [zCY];refine wdI (Post.out (hN p hp (by omega))) fun x q hq=>loop _ q x hq.1 hq.2.1 hq.2.2 ?_
 have:=hq.1.i0;have:=hq.1.big;have:=zAf (n:=1025) (by omega);omega
theorem zTh {d:Nat} (h:SpPN d):SpA (d+1):=by
 intro p hp hd;rw [zIp];exact wdI (Post.out (h p _ _ hp (by omega) (by decide) (by decide) (.inl rfl))) fun x q hq=>Wp.mk ⟨x,q,rfl,hq⟩
theorem zTD {d:Nat} (h:SpPA d):SpO (d+1):=by
 intro p hp hd;rw [zIO];exact wdI (Post.out (h p _ _ hp (by omega) (by decide) (by decide) (.inr rfl))) fun x q hq=>Wp.mk ⟨x,q,rfl,hq⟩
theorem up {p q r u:PS} {b:Bool} {k:Int} (hq:Inv q) (h:Stp 0 p q) (hi:In b q r) (hs:Stp k r u) (hu:Inv u):Inv { u with dp:=wrapx .i64 (u.dp-1) }/\Stp k p { u with dp:=wrapx .i64 (u.dp-1) }/\(u.nf->q.l=r.l):=by
 refine ⟨⟨hu.i0,hu.i1,hu.big,fun hn=>?_⟩,⟨hs.s.trans (hi.s.trans h.s),?_,fun hn=>?_⟩,fun hn=>(hi.nf (hs.nf hn).1).2.2.2.2.symm⟩
 ·have hn:u.nf:=hn;obtain ⟨d0,d1,x⟩:=hu.ok hn;obtain ⟨e1,e2,_⟩:=hs.nf hn;obtain ⟨_,f1,f2,_⟩:=hi.nf e1;have:=(hq.ok f1).1;refine ⟨?_,?_,x⟩
  ·show 0<=wrapx .i64 (u.dp-1)
   rw [zK (by omega) (by omega)];omega
  ·show wrapx .i64 (u.dp-1)<=32
   rw [zK (by omega) (by omega)];omega
 ·have:=hs.i;have:=hi.i;have:=h.i;show p.i<=u.i
  omega
 ·have hn:u.nf:=hn;obtain ⟨d0,d1,x⟩:=hu.ok hn;obtain ⟨e1,e2,e3,e4⟩:=hs.nf hn;obtain ⟨_,f1,f2,f3,f4⟩:=hi.nf e1;obtain ⟨g1,g2,g3,g4⟩:=h.nf f1;refine ⟨g1,?_,?_,?_⟩
  ·show wrapx .i64 (u.dp-1)=p.dp
   rw [zK (by omega) (by omega)];omega
  ·show u.n-u.l.length=_
   rw [e3,f3,f4,g3];omega
  ·show p.l.length<=u.l.length
   rw [f4] at e4;omega
theorem Res.tr {a b:Int} {p q r:PS} {x:Int} (h:Stp a p q) (k:Res q r x) (hs:Stp b q r):Res p r x:=fun hr=>by
 obtain ⟨k1,k2⟩:=k hr;have:=(h.nf (hs.nf hr).1).2.2.2;exact ⟨k1,by omega⟩
theorem Post.tr {p q:PS} (h:Stp 0 p q) {v:AV×Heap×Vecs} (k:Post q v):Post p v:=by
 obtain ⟨x,r,rfl,h1,h2,h3⟩:=k;exact ⟨x,r,rfl,h1,h.trans0 h2,Res.tr h h3 h2⟩
theorem zQp {d:Nat} (p q:PS) (x:Int) (b:Bool) (hq:Inv q) (hs:Stp 0 p q) (hr:Res p q x):Wp (zA8 d x b q.s q.i q.dp q.n q.e q.fa q.l) (Post p):=by
 rw [zGL];refine Wp.if (fun _=>wdU (zBW _ _ (by decide) q hq.z) fun r h=>?_) fun _=>?_
 ·rw [zDG];exact Wp.mk (.bad h.1 (h.2.1.trans hs.s) (by rw [h.2.2.1];exact hs.i) h.2.2.2 _)
 ·rw [zDG];exact Wp.mk ⟨x,q,rfl,hq,hs,hr⟩
theorem In.i' {b:Bool} {p q r:PS} (h:Stp 0 p q) (k:In b q r):r.s=p.s/\p.i<=r.i:=⟨k.s.trans h.s,by rw [k.i];exact h.i⟩
theorem zTi {d:Nat} (hN:SpN d) (hO:SpO d):SpN (d+1):=by
 intro p hp hd;rw [zIq];refine wdU (zDf p hp) fun q hq=>Wp.if (fun hn=>?_) fun hn=>?_
 ·have hn:¬q.nf:=zKO hn;exact Wp.mk (.bad hq.1 hq.2.1.s hq.2.1.i hn _)
 have hn:q.nf:=zJ3 hn;have pn:=(hq.2.1.nf hn).1;refine wdB (zDV q hq.1 _ (by decide)) fun b q1 h1=>?_
 have s1:=hq.2.1.trans0 h1.2.1;refine Wp.if (fun _=>?_) fun _=>?_
 ·refine wdB (zRq q.i q1 h1.1) fun b1 q2 h2=>?_
  have m2:=(s1.m0 hp h2.2).resolve_right (fun h=>h pn)
  obtain ⟨es,ei⟩:=In.i' s1 h2.2;refine Wp.if (fun hb=>Wp.mk (.bad h2.1 es ei (fun hn2=>?_) _)) fun _=>?_
  ·rw [(h2.2.nf hn2).1] at hb;cases hb
  refine wdU (zGl q.i q2 h2.1) fun q3 h3=>?_
  have m3:=h3.2.1.m;refine wdI (Post.out (hN q3 h3.1 (by omega))) fun y q4 h4=>?_
  obtain ⟨u1,u2,_⟩:=up h1.1 s1 h2.2 (h3.2.1.trans h4.2.1) h4.1;refine wdI (Post.out (zL4 p _ hp u1 u2 (Int.ofNat 7) [] [] (Int.ofNat 0) y (Int.negSucc 0) fun h4n=>?_)) fun z q5 h5=>Wp.mk ⟨z,q5,rfl,h5⟩
  obtain ⟨y1,y2⟩:=h4.2.2 h4n;refine ⟨7,[],[],_,_,_,rfl,z64,by decide,by decide,fun _=>⟨q4.l.length-1,?_,?_⟩,fun e=>by omega⟩
  ·rw [Int.ofNat_eq_natCast];omega
  ·show q4.l.length-1<q4.l.length
   omega
 ·refine wdB (zDV q1 h1.1 _ (by decide)) fun b1 q2 h2=>?_
  have s2:=s1.trans0 h2.2.1;refine Wp.if (fun _=>?_) fun _=>?_
  ·refine wdB (zRq q.i q2 h2.1) fun b2 q3 h3=>?_
   have m2:=(s2.m0 hp h3.2).resolve_right (fun h=>h pn)
   obtain ⟨es,ei⟩:=In.i' s2 h3.2;refine Wp.if (fun hb=>Wp.mk (.bad h3.1 es ei (fun hn2=>?_) _)) fun _=>?_
   ·rw [(h3.2.nf hn2).1] at hb;cases hb
   refine wdI (Post.out (hO q3 h3.1 (by omega))) fun x q4 h4=>?_
   obtain ⟨u1,u2,u3⟩:=up h2.1 s2 h3.2 h4.2.1 h4.1;have hr:Res p { q4 with dp:=wrapx .i64 (q4.dp-1) } x:=fun hn4=>by
    obtain ⟨y1,y2⟩:=h4.2.2 hn4;refine ⟨y1,?_⟩
    have e:=u3 hn4;have:=((s2.nf (h3.2.nf (h4.2.1.nf hn4).1).2.1)).2.2.2;rw [e] at this;show p.l.length<q4.l.length
    omega
   refine Wp.if (fun _=>wdB (zDV { q4 with dp:=wrapx .i64 (q4.dp-1) } u1 _ (by decide)) fun b3 q5 h5=>zQp p q5 x _ h5.1 (u2.trans0 h5.2.1) fun hn5=>?_) fun _=>zQp p { q4 with dp:=wrapx .i64 (q4.dp-1) } x _ u1 u2 hr
   rw [h5.2.2.2];exact hr (h5.2.1.nf hn5).1
  ·exact wdI (Post.out ((zSw q2 h2.1).mono fun v hv=>Post.tr s2 hv)) fun x q3 h3=>Wp.mk ⟨x,q3,rfl,h3⟩
theorem zeros:SpN 0/\SpPN 0/\SpA 0/\SpPA 0/\SpO 0:=⟨fun p _ h=>by omega,fun p _ _ _ h=>by omega,fun p _ h=>by omega,fun p _ _ _ h=>by omega,fun p _ h=>by omega⟩
theorem zPl (d:Nat):SpN d/\SpPN d/\SpA d/\SpPA d/\SpO d:=by
 induction d with
 | zero=>exact zeros
 | succ d ih=>exact ⟨zTi ih.1 ih.2.2.2.2,zQn ih.1,zTh ih.2.1,zQo ih.2.2.1,zTD ih.2.2.2.1⟩
end Go.Proofs.YtdeeimaahdgeaaaGreatDoor.spec
namespace Go.Proofs.YtdeeimaahdgeaaaGreatDoor.spec
open Go Go.Sy
variable [MX]
theorem TL.at {es:List AV} {L:Nat->Nat} {m j:Nat} (h:TL es L m) (hj:j<m):∃k s t n l r,ixN es (Int.ofNat j)=some (nd6 k s t n l r)/\(-9223372036854775808<=n/\n<=9223372036854775807)/\s.length+t.length+24<=L j/\L j<=topL ∧
 (k=7->∃a:Nat,l=Int.ofNat a/\a<j/\L a+3<=L j)/\(k=8\/k=9->∃a b:Nat,l=Int.ofNat a/\r=Int.ofNat b/\a<j/\b<j/\L a+L b+7<=L j):=h j hj
abbrev isT (m:Nat) (v:AV):Prop:=∃t,v=.str t/\t.length<=m
theorem zTj {d:Nat} {es:List AV} {L:Nat->Nat} {m a:Nat} (h:TL es L m) (ha:a<m) (hd:Wp (zB0 d es (Int.ofNat a)) (isT (L a))) (least:Int):Wp (zAw (d+1) (Int.ofNat a) least es) (isT (L a+2)):=by
 rw [zKW];obtain ⟨k,s,t,n,l,r,he,_,_,ht,_⟩:=h.at ha;refine wk_s hd fun u hu=>zCR he ?_
 have:∃x,zEC k=some (.int .i64 x):=by
  have:Wp (zEC k) isE:=by
   rw [zLL]
   repeat' first | refine Wp.if (fun _=>?_) (fun _=>?_) | exact Wp.mk ⟨_,rfl,trivial⟩
  obtain ⟨v,e,x,rfl,_⟩:=this;exact ⟨x,e⟩
 obtain ⟨x,hx⟩:=this;refine qk_i hx (Wp.ite (fun _=>Wp.gd ?_ (Wp.gd ?_ (Wp.mk ⟨_,rfl,?_⟩))) fun _=>Wp.mk ⟨_,rfl,by omega⟩)
 all_goals simp only [List.length_append,List.length_cons,List.length_nil]
 all_goals unfold topL at ht
 all_goals first | omega | (unfold ze;omega)
theorem zSx {es:List AV} {L:Nat->Nat} {m:Nat} (h:TL es L m):∀(d j:Nat),2*j+1<=d->j<m->Wp (zB0 d es (Int.ofNat j)) (isT (L j)):=by
 intro d
 induction d using Nat.strongRecOn with
 | _ d ih=>
  intro j hd hj;obtain ⟨k,s,t,n,l,r,he,hn,h1,ht,h7,h89⟩:=h.at hj;obtain ⟨d,rfl⟩:∃d',d=d'+1:=⟨d-1,by omega⟩
  have part:∀a:Nat,a<j->∀least:Int,Wp (zAw d (Int.ofNat a) least es) (isT (L a+2)):=fun a ha least=>by
   obtain ⟨d2,rfl⟩:∃d',d=d'+1:=⟨d-1,by omega⟩
   exact zTj h (by omega) (ih d2 (by omega) a (by omega) (by omega)) least
  unfold topL at ht;have m0:ze=9223372036854775807:=rfl;rw [zMb];refine zCR he ?_
  refine Wp.if (fun _=>Wp.mk ⟨_,rfl,by show 3<=_;omega⟩) fun _=>?_
  refine Wp.if (fun _=>Wp.gd ?_ (Wp.gd ?_ (Wp.mk ⟨_,rfl,?_⟩))) fun _=>?_
  any_goals (simp only [List.length_append,List.length_cons,List.length_nil];omega)
  refine Wp.if (fun _=>Wp.gd ?_ (Wp.gd ?_ (Wp.mk ⟨_,rfl,?_⟩))) fun _=>?_
  any_goals (simp only [List.length_append,List.length_cons,List.length_nil];omega)
  obtain ⟨f,hf,hfl⟩:=zPk n hn.1 hn.2;refine Wp.if (fun _=>Wp.gd ?_ (qk_s hf (Wp.gd ?_ (Wp.mk ⟨_,rfl,?_⟩)))) fun _=>?_
  any_goals (simp only [List.length_append,List.length_cons,List.length_nil];omega)
  refine Wp.if (fun _=>Wp.gd ?_ (qk_s hf (Wp.gd ?_ (Wp.mk ⟨_,rfl,?_⟩)))) fun _=>?_
  any_goals (simp only [List.length_append,List.length_cons,List.length_nil];omega)
  refine Wp.if (fun hk=>?_) fun _=>?_
  ·obtain ⟨a,rfl,ha,hL⟩:=h7 (by simpa using hk)
   refine wk_s (part a ha _) fun u hu=>Wp.gd ?_ (Wp.mk ⟨_,rfl,?_⟩)
   all_goals simp only [List.length_append,List.length_cons,List.length_nil]
   all_goals omega
  refine Wp.if (fun hk=>?_) fun _=>?_
  ·obtain ⟨a,b,rfl,rfl,ha,hb,hL⟩:=h89 (.inl (by simpa using hk))
   refine wk_s (part a ha _) fun u hu=>Wp.gd ?_ (wk_s (part b hb _) fun w hw=>Wp.gd ?_ (Wp.mk ⟨_,rfl,?_⟩))
   all_goals simp only [List.length_append,List.length_cons,List.length_nil]
   all_goals omega
  refine Wp.if (fun hk=>?_) fun _=>Wp.mk ⟨_,rfl,by omega⟩
  ·obtain ⟨a,b,rfl,rfl,ha,hb,hL⟩:=h89 (.inr (by simpa using hk))
   refine wk_s (part a ha _) fun u hu=>Wp.gd ?_ (wk_s (part b hb _) fun w hw=>Wp.gd ?_ (Wp.mk ⟨_,rfl,?_⟩))
   all_goals simp only [List.length_append,List.length_cons,List.length_nil]
   all_goals omega
theorem WF.TL {l:List AV} (h:WF l) (hl:l.length<=64):TL l fbL l.length:=by
 intro j hj;obtain ⟨k,s,t,n,a,b,he,hn,hs,ht,h7,h89⟩:=h j _ (List.getElem?_eq_getElem hj);refine ⟨k,s,t,n,a,b,by rw [List.getElem?_eq_getElem hj,he],hn,by have:=zTf j;omega,zSr (by omega),fun e=>?_,fun e=>?_⟩
 ·obtain ⟨a',rfl,ha⟩:=h7 e;exact ⟨a',rfl,ha,zSp ha⟩
 ·obtain ⟨a',b',rfl,rfl,ha,hb⟩:=h89 e;exact ⟨a',b',rfl,rfl,by omega,hb,zSq ha hb⟩
theorem zML {l:List AV} {L:Nat->Nat} (h:TL l L l.length) (h0:0<l.length) (hl:l.length<=64):Wp (zB0 FUEL l (wrapx .i64 (Int.ofNat l.length-1))) fun v=>∃t,v=.str t/\True:=by
 rw [zDy h0 (by omega)]
 exact (zSx h FUEL (l.length-1) (Nat.le_of_lt (zAf (by omega))) (by omega)).mono fun v ⟨t,e,_⟩=>⟨t,e,trivial⟩
def isP (v:AV):Prop:=(∃e f,v=.tup [.agg [.nilslice],.agg [.int .i64 e,.int .i64 f]]/\¬(e=0/\f=0))\/∃l,v=.tup [.agg [.lst 6 l],.agg [.int .i64 (Int.ofNat 0),.int .i64 (Int.ofNat 0)]]/\WF l/\l.length<=64
theorem zKP (q:PS) (hq:Inv q):Wp (zBP q.s q.i q.dp q.n q.e q.fa (Int.ofNat 0) (Int.ofNat 0) q.l) isP:=by
 rw [zJD];refine Wp.if (fun hn=>?_) fun hn=>?_
 ·have hn:¬q.nf:=zKO hn;exact Wp.mk (.inl ⟨_,_,rfl,hn⟩)
 ·have hn:q.nf:=zJ3 hn;obtain ⟨_,_,h1,h2,h3⟩:=hq.ok hn;exact Wp.mk (.inr ⟨_,rfl,h3,by omega⟩)
theorem zNW (q:PS) (hq:Inv q) (h0:q.nf->0<q.l.length):Wp (zC5 q.s q.i q.dp q.n q.e q.fa (Int.ofNat 0) (Int.ofNat 0) q.l) isP:=by
 rw [zJE];refine Wp.if (fun hn=>?_) fun _=>zKP q hq
 have hn:q.nf:=zLD.1 hn;obtain ⟨_,_,h1,h2,h3⟩:=hq.ok hn;have hl:q.l.length<=64:=by omega
 exact wk_s (zML (h3.TL hl) (h0 hn) hl) fun t _=>Wp.ite (fun _=>wdU (zBW _ _ (by decide) q hq.z) fun r hr=>zKP r hr.1) fun _=>zKP q hq
theorem zLE (s:List Nat):Wp (zED s) isP:=by
 rw [zLM];refine Wp.ite (fun _=>Wp.mk (.inl ⟨_,_,rfl,fun h=>(by cases h.1)⟩)) fun hs=>?_
 rw [Int.ofNat_eq_natCast] at hs;have hp:Inv ⟨s,Int.ofNat 0,Int.ofNat 0,Int.ofNat 0,Int.ofNat 0,Int.ofNat 0,[]⟩:=⟨Int.le_refl _,Int.natCast_nonneg _,by show s.length<=1024;omega,fun _=>⟨Int.le_refl _,(by decide:Int.ofNat 0<=32),Int.le_refl _,(by decide:Int.ofNat 0<=64),fun j v h=>by cases h⟩⟩
 have hm:5*(PS.mk s (Int.ofNat 0) (Int.ofNat 0) (Int.ofNat 0) (Int.ofNat 0) (Int.ofNat 0) []).m+5<=FUEL:=by
  rw [m_nf ⟨rfl,rfl⟩];have:FUEL=1180591620717411303424:=zJY;rw [this];exact (by decide:5*(33-Int.ofNat 0).toNat+5<=1180591620717411303424)
 refine wdI (Post.out ((zPl FUEL).2.2.2.2 _ hp hm)) fun x q hq=>wdU (zDf q hq.1) fun r hr=>?_
 have h0:r.nf->0<r.l.length:=fun hn=>by
  have:=(hq.2.2 (hr.2.1.nf hn).1).2;rw [hr.2.2];exact this
 exact Wp.ite (fun _=>wdU (zBW _ _ (by decide) r hr.1.z) fun u hu=>zNW u hu.1 fun hn=>absurd hn hu.2.2.2) fun _=>zNW r hr.1 h0
end Go.Proofs.YtdeeimaahdgeaaaGreatDoor.spec
namespace Go.Proofs.YtdeeimaahdgeaaaGreatDoor.spec
open Go Go.Sy
variable [MX]
def zHI (us:List AV) (c:Nat->Int) (m:Nat):Prop:=us.length=m/\∀j,j<m->us[j]? = some (.int .i64 (c j))
theorem zJ4 {us:List AV} {j:Nat} {x:Int} (h:us[j]? = some (.int .i64 x)):ldE us (Int.toNat (Int.ofNat j)) 0 1 false=some (.int .i64 x):=by
 show (match us[j]? with | some e=>Go.Sy.part e.cells 0 1 false | none=>none)=_
 rw [h];rfl
theorem zHI.set {us:List AV} {c:Nat->Int} {m a:Nat} (h:zHI us c m) (ha:a<m) (x:Int):zHI (us.set a (.int .i64 x)) (upd c a x) m:=by
 refine ⟨by rw [List.length_set];exact h.1,fun j hj=>?_⟩
 by_cases e:j=a
 ·subst e;rw [zCD,List.getElem?_set_self (by rw [h.1];exact hj)]
 ·rw [zAq e,List.getElem?_set_ne (fun e'=>e e'.symm)]
  exact h.2 j hj
def bigK:Nat:=4000100
def Bad (c:Nat->Int) (m:Nat):Prop:=∃j,j<m/\2<=c j
structure Sh (es:List AV) (L:Nat->Nat) (c:Nat->Int) (i T:Nat):Prop where
 tl:TL es L i
 le:∀j,j<i->L j<=bigK*i
 sum:rs L c i+T<=bigK*i
 old:∀j,j<i->c j=0\/c j=1
 new:∀j,i<=j->c j=0
def Ok (es:List AV) (c:Nat->Int) (m i T:Nat) (ks:List Nat):Prop:=Bad c m\/∃L,Sh es L c i T/\(ks.map L).foldr (·+·) 0<=T
theorem Sh.take {es:List AV} {L:Nat->Nat} {c:Nat->Int} {i T a:Nat} (h:Sh es L c i T) (ha:a<i) (h0:c a=0):Sh es L (upd c a (c a+1)) i (T+L a):=by
 refine ⟨h.tl,h.le,?_,fun j hj=>?_,fun j hj=>?_⟩
 ·have:=zOI (L:=L) h0 (show c a+1≠0 by omega) ha
  have:=h.sum;omega
 ·by_cases e:j=a
  ·subst e;rw [zCD];omega
  ·rw [zAq e];exact h.old j hj
 ·rw [zAq (by omega)];exact h.new j hj
theorem Ok.take {es:List AV} {c:Nat->Int} {m i T a:Nat} {ks:List Nat} (h:Ok es c m i T ks) (ha:a<i) (him:i<=m) (hc:∀j,0<=c j):∃T',Ok es (upd c a (c a+1)) m i T' (a::ks):=by
 rcases h with ⟨j,hj,h2⟩ | ⟨L,h,hk⟩
 ·refine ⟨0,.inl ⟨j,hj,?_⟩⟩
  by_cases e:j=a
  ·subst e;rw [zCD];omega
  ·rw [zAq e];exact h2
 ·rcases h.old a ha with h0 | h1
  ·refine ⟨T+L a,.inr ⟨L,h.take ha h0,?_⟩⟩
   show L a+(ks.map L).foldr (·+·) 0<=_
   omega
  ·exact ⟨0,.inl ⟨a,by omega,by rw [zCD];omega⟩⟩
theorem Ok.next {es:List AV} {c:Nat->Int} {m i T:Nat} {ks:List Nat} (h:Ok es c m i T ks) (him:i<m) (hi:i<64) {k:Int} {s t:List Nat} {n l r:Int} (he:es[i]? = some (nd6 k s t n l r)) (hn:-9223372036854775808<=n/\n<=9223372036854775807) (hs:s.length+t.length+24<=bigK)
  (h7:k=7->∃a:Nat,l=Int.ofNat a/\a<i/\ks=[a]) (h89:k=8\/k=9->∃a b:Nat,l=Int.ofNat a/\r=Int.ofNat b/\a<i/\b<i/\ks=[b,a]):Ok es c m (i+1) 0 []:=by
 rcases h with hb | ⟨L,h,hk⟩
 ·exact .inl hb
 ·refine .inr ⟨upd L i (T+bigK),⟨fun j hj=>?_,fun j hj=>?_,?_,fun j hj=>?_,fun j hj=>h.new j (by omega)⟩,Nat.le_refl _⟩
  ·by_cases e:j=i
   ·subst e;have hT:T<=bigK*j:=by have:=h.sum;omega
    refine ⟨k,s,t,n,l,r,he,hn,by rw [zCD];omega,by rw [zCD];unfold bigK topL at *;omega,fun e=>?_,fun e=>?_⟩
    ·obtain ⟨a,rfl,ha,rfl⟩:=h7 e;have hk:L a+0<=T:=hk;exact ⟨a,rfl,ha,by rw [zCD,zAq (by omega)];unfold bigK;omega⟩
    ·obtain ⟨a,b,rfl,rfl,ha,hb,rfl⟩:=h89 e;have hk:L b+(L a+0)<=T:=hk;exact ⟨a,b,rfl,rfl,ha,hb,by rw [zCD,zAq (by omega),zAq (by omega)];unfold bigK;omega⟩
   ·obtain ⟨k',s',t',n',l',r',q1,q2,q3,q4,q5,q6⟩:=h.tl j (by omega)
    refine ⟨k',s',t',n',l',r',q1,q2,by rw [zAq e];exact q3,by rw [zAq e];exact q4,fun e'=>?_,fun e'=>?_⟩
    ·obtain ⟨a,rfl,ha,hL⟩:=q5 e';exact ⟨a,rfl,ha,by rw [zAq e,zAq (by omega)];exact hL⟩
    ·obtain ⟨a,b,rfl,rfl,ha,hb,hL⟩:=q6 e';exact ⟨a,b,rfl,rfl,ha,hb,by rw [zAq e,zAq (by omega),zAq (by omega)];exact hL⟩
  ·by_cases e:j=i
   ·subst e;rw [zCD];have:=h.sum;rw [Nat.mul_add];omega
   ·rw [zAq e];have:=h.le j (by omega);rw [Nat.mul_add];omega
  ·rw [rs,zKN (L':=L) (c':=c) (fun j hj=>zAq (by omega)) fun _ _=>rfl,zCD,if_pos (h.new i (Nat.le_refl _)),Nat.mul_add]
   have:=h.sum;omega
  ·by_cases e:j=i
   ·subst e;exact .inl (h.new j (Nat.le_refl _))
   ·exact h.old j (by omega)
abbrev isSh (es:List AV) (v:AV):Prop:=∃b,v=.bool b/\(b=true->0<es.length/\es.length<=64/\∃L,TL es L es.length)
theorem zCp {es:List AV}:isSh es (.bool false):=⟨false,rfl,fun h=>by cases h⟩
theorem zPm (es us:List AV) (c:Nat->Int) (hu:zHI us c es.length) (h0:0<es.length) (h64:es.length<=64) (hok:Ok es c es.length es.length 0 []):∀(n i:Nat),i<=es.length->es.length-i<n->(∀j,j<i->j<es.length-1->c j=1)->Wp (zA5 n es (Int.ofNat us.length) (Int.ofNat i) us) (isSh es):=by
 intro n
 induction n with
 | zero=>intro i _ h;omega
 | succ n ih=>
  intro i hi hn hj;have hul:=hu.1;rw [zIr,hu.1];have hlast:wrapx .i64 (Int.ofNat es.length-1)=Int.ofNat (es.length-1):=zDy h0 (by omega)
  refine Wp.lt (fun hlt=>?_) fun hge=>?_
  ·refine zIg hlt (qk_i (zJ4 (hu.2 i hlt)) ?_)
   rw [hlast,z5 (by omega),←hu.1]
   refine Wp.lt (fun hl=>Wp.if (fun _=>Wp.mk zCp) fun h1=>ih (i+1) hlt (by omega) fun j h2 h3=>?_) fun hl=>ih (i+1) hlt (by omega) fun j h2 h3=>?_
   ·by_cases e:j=i
    ·subst e;simpa using h1
    ·exact hj j (by omega) h3
   ·exact hj j (by omega) h3
  ·rw [hlast];refine zIg (by omega) (qk_i (zJ4 (hu.2 _ (by omega))) (Wp.mk ⟨_,rfl,fun hb=>⟨h0,h64,?_⟩⟩))
   have hb:c (es.length-1)=0:=by simpa using hb
   rcases hok with ⟨j,hjl,h2⟩ | ⟨L,h,_⟩
   ·by_cases e:j<es.length-1
    ·have:=hj j (by omega) e;omega
    ·have:j=es.length-1:=by omega
     subst this;omega
   ·exact ⟨L,h.tl⟩
end Go.Proofs.YtdeeimaahdgeaaaGreatDoor.spec
namespace Go.Proofs.YtdeeimaahdgeaaaGreatDoor.spec
open Go Go.Sy
variable [MX]
theorem zHh {es us parts:List AV} {n27 n i x:Nat} {c:Nat->Int} {k:Int} {P:AV->Prop} (hu:zHI us c es.length) (hc:∀j,0<=c j/\c j<=1000) (hx:parts[x]? = some (.int .i64 k)) (hx2:x<5) (hi:i<=es.length) (t23 t24:Int) (t22:List AV) (hf:P (.bool false))
  (h:∀a:Nat,k=Int.ofNat a->a<i->Wp (zAt n27 n es (Int.ofNat i) t22 t23 t24 (Int.ofNat parts.length) (Int.ofNat (x+1)) (us.set a (.int .i64 (c a+1))) parts) P):Wp (zAt n27 (n+1) es (Int.ofNat i) t22 t23 t24 (Int.ofNat parts.length) (Int.ofNat x) us parts) P:=by
 have hlt:x<parts.length:=(List.getElem?_eq_some_iff.1 hx).1;rw [zEE];refine Wp.lt (fun _=>zIg hlt (qk_i (zJ4 hx) (Wp.ite (fun _=>Wp.mk hf) fun h0=>Wp.ite (fun _=>Wp.mk hf) fun h1=>?_))) fun hge=>absurd hlt (by omega)
 obtain ⟨a,rfl⟩:=Int.eq_ofNat_of_zero_le (show 0<=k by omega)
 have ha:a<i:=by rw [Int.ofNat_eq_natCast] at h1;omega
 have hal:a<us.length:=by rw [hu.1];omega
 have hca:=hc a;refine zIg hal (qk_i (zJ4 (hu.2 a (by omega))) (zIg hal ?_))
 rw [z5 (by omega),zK (by omega) (by omega)]
 exact h a rfl ha
theorem zIj {es us parts:List AV} {n27 n i x:Nat} {P:AV->Prop} (hx:x=parts.length) (hi:i<1000) (t22:List AV) (t23:Int) (h:Wp (zA6 n27 es t22 t23 (Int.ofNat (i+1)) us) P):Wp (zAt n27 (n+1) es (Int.ofNat i) t22 t23 (Int.ofNat i) (Int.ofNat parts.length) (Int.ofNat x) us parts) P:=by
 rw [zEE];refine Wp.lt (fun h=>absurd h (by omega)) fun _=>?_
 rw [z5 (by omega)]
 exact h
theorem zPn:FUEL=1180591620717411303421+1+1+1:=zJY
theorem zNX {c:Nat->Int} {a n:Nat} (hc:∀j,0<=c j/\c j<=(n:Int)) (j:Nat):0<=upd c a (c a+1) j/\upd c a (c a+1) j<=((n+1:Nat):Int):=by
 by_cases e:j=a
 ·subst e;rw [zCD];have:=hc j;omega
 ·rw [zAq e];have:=hc j;omega
theorem zOk (es:List AV) (h:Nds es):Wp (zFj es) (isSh es):=by
 rw [zK1];refine Wp.ite (fun _=>Wp.mk zCp) fun h0=>Wp.ite (fun _=>Wp.mk zCp) fun h64=>?_
 rw [Int.ofNat_eq_natCast] at h0 h64;have h0:0<es.length:=by omega
 have h64:es.length<=64:=by omega
 have loop:∀(n i:Nat) (us:List AV) (c:Nat->Int),i<=es.length->es.length-i<n->zHI us c es.length->(∀j,0<=c j/\c j<=((2*i:Nat):Int))->Ok es c es.length i 0 []->Wp (zA6 n es es (Int.ofNat es.length) (Int.ofNat i) us) (isSh es):=by
  intro n
  induction n with
  | zero=>intro i us c _ h;omega
  | succ n ih=>
   intro i us c hi hn hu hc hok;have hc1:∀j,0<=c j/\c j<=1000:=fun j=>by have:=hc j;omega
   have hc2:∀j,0<=c j/\c j<=((2*(i+1):Nat):Int):=fun j=>by have:=hc j;omega
   rw [zIs];refine Wp.lt (fun hlt=>?_) fun hge=>?_
   ·obtain ⟨k,s,t,nn,l,r,he,n0,n1,hs,ht⟩:=h.1 _ (List.getElem_mem hlt);have he':es[i]? = some (nd6 k s t nn l r):=by rw [List.getElem?_eq_getElem hlt,he]
    have hst:s.length+t.length+24<=bigK:=by unfold bigK;omega
    refine zCR ((zBL hlt).trans (congrArg some he)) ?_
    have next0:∀parts,parts=[]->¬k=7->¬(k=8\/k=9)->Wp (zAD n es (Int.ofNat i) es (Int.ofNat es.length) (Int.ofNat i) us parts) (isSh es):=fun parts hp h7 h8=>by
     subst hp;rw [zC0,zPn];exact zIj rfl (by omega) _ _ (ih (i+1) us c hlt (by omega) hu hc2 (hok.next hlt (by omega) he' ⟨n0,n1⟩ hst (fun e=>absurd e h7) fun e=>absurd e h8))
    refine Wp.if (fun hk=>?_) fun hk7=>?_
    ·have hk:k=7:=by simpa using hk
     refine Wp.if (fun _=>Wp.mk zCp) fun _=>?_
     rw [zC0,zPn];refine zHh (parts:=[.int .i64 l]) (x:=0) hu hc1 rfl (by omega) hi _ _ _ zCp fun a ha hai=>?_
     obtain ⟨T,ok1⟩:=hok.take hai hi fun j=>(hc j).1
     refine zIj rfl (by omega) _ _ (ih (i+1) _ (upd c a (c a+1)) hlt (by omega) (hu.set (by omega) _) (fun j=>?_) (ok1.next hlt (by omega) he' ⟨n0,n1⟩ hst (fun _=>⟨a,ha,hai,rfl⟩) fun e=>by omega))
     have:=zNX (a:=a) hc j;omega
    ·have hk7:¬k=7:=by simpa using hk7
     have two:k=8\/k=9->Wp (zAD n es (Int.ofNat i) es (Int.ofNat es.length) (Int.ofNat i) us [.int .i64 l,.int .i64 r]) (isSh es):=fun hk=>by
      rw [zC0,zPn];refine zHh (parts:=[.int .i64 l,.int .i64 r]) (x:=0) hu hc1 rfl (by omega) hi _ _ _ zCp fun a ha hai=>?_
      obtain ⟨T,ok1⟩:=hok.take hai hi fun j=>(hc j).1
      have hc3:=fun j=>zNX (a:=a) hc j
      refine zHh (parts:=[.int .i64 l,.int .i64 r]) (x:=1) (hu.set (by omega) _) (fun j=>by have:=hc3 j;omega) rfl (by omega) hi _ _ _ zCp fun b hb hbi=>?_
      obtain ⟨T2,ok2⟩:=ok1.take hbi hi fun j=>(hc3 j).1
      refine zIj rfl (by omega) _ _ (ih (i+1) _ (upd (upd c a (c a+1)) b (upd c a (c a+1) b+1)) hlt (by omega) ((hu.set (by omega) _).set (by omega) _) (fun j=>?_) (ok2.next hlt (by omega) he' ⟨n0,n1⟩ hst (fun e=>by omega) fun _=>⟨a,b,ha,hb,hai,hbi,rfl⟩))
      have:=zNX (a:=b) hc3 j;omega
     have j2:∀b:Bool,(b=true->k=8\/k=9)->(b=false->¬(k=8\/k=9))->Wp (zCw n es (Int.ofNat i) es (Int.ofNat es.length) (Int.ofNat i) b k s t nn l r us []) (isSh es):=fun b b1 b0=>by
      rw [zIR];exact Wp.if (fun hb=>two (b1 hb)) fun hb=>Wp.if (fun _=>Wp.mk zCp) fun _=>Wp.if (fun _=>Wp.mk zCp) fun _=>next0 [] rfl hk7 (b0 hb)
     refine Wp.if (fun hk=>j2 true (fun _=>.inl (by simpa using hk)) fun e=>by cases e) fun hk8=>j2 _ (fun e=>.inr (by simpa using e)) fun e=>?_
     have hk8:¬k=8:=by simpa using hk8
     have hk9:¬k=9:=by simpa using e
     omega
   ·have:i=es.length:=by omega
    subst this;exact zPm es us c hu h0 h64 hok _ 0 (Nat.zero_le _) (zAf (by omega)) fun j hj=>by omega
 rw [zIS];have e1:Int.toNat (Int.ofNat es.length)=es.length:=rfl;refine Wp.gd ⟨Int.natCast_nonneg _,Int.le_refl _,?_,?_⟩ (loop _ 0 _ (fun _=>0) (Nat.zero_le _) (zAf (by omega)) ⟨?_,fun j hj=>?_⟩ (fun j=>by omega) (.inr ⟨fun _=>0,⟨fun j hj=>by omega,fun j hj=>by omega,Nat.le_refl _,fun j hj=>by omega,fun _ _=>rfl⟩,Nat.le_refl _⟩))
 ·rw [e1];unfold zf;omega
 ·rw [e1];unfold zf;omega
 ·rw [e1,List.length_replicate]
 ·rw [e1];exact List.getElem?_eq_some_iff.2 ⟨by rw [List.length_replicate];exact hj,by rw [List.getElem_replicate]⟩
theorem zRs {l:List AV} (h:WF l) (hl:l.length<=64):Nds l:=⟨fun e he=>by
 obtain ⟨j,hj⟩:=List.getElem?_of_mem he;obtain ⟨k,s,t,n,a,b,rfl,hn,hs,ht,_⟩:=h j e hj;exact ⟨k,s,t,n,a,b,rfl,hn.1,hn.2,by omega,by omega⟩,by omega⟩
theorem zOm (es:List AV) (h:Nds es):Wp (zDo es) fun v=>∃n,v=.int .i64 n/\(n=0->0<es.length/\es.length<=64/\∃L,TL es L es.length):=by
 have hbad:∀n:Int,n≠0->∃m,(AV.int .i64 n)=.int .i64 m/\(m=0->0<es.length/\es.length<=64/\∃L,TL es L es.length):=fun n hn=>⟨n,rfl,fun e=>absurd e hn⟩
 rw [zLN];refine wk_b (zOk es h) fun b hb=>Wp.if (fun _=>Wp.mk (hbad _ (by decide))) fun hnb=>?_
 have hnb:b=true:=by simpa using hnb
 obtain ⟨h0,h64,L,hL⟩:=hb hnb;refine wk_s (zML hL h0 h64) fun t _=>?_
 obtain ⟨v,e,hv⟩:=zLE t;rw [e];rcases hv with ⟨x,f,rfl,hn⟩ | ⟨l,rfl,hw,hl⟩
 ·show Wp (br (!(x==0&&f==0)) _ _) _
  exact Wp.if (fun _=>Wp.mk (hbad _ (by decide))) fun hf=>absurd (zJ3 (p:=⟨[],0,0,0,x,f,[]⟩) hf) hn
 ·rw [zMT];exact Wp.if (fun _=>Wp.mk (hbad _ (by decide))) fun _=>wk_b (zJx l es (zRs hw hl) h) fun b _=>Wp.if (fun _=>Wp.mk (hbad _ (by decide))) fun _=>Wp.mk ⟨_,rfl,fun _=>⟨h0,h64,L,hL⟩⟩
theorem zLF (es:List AV) (h:Nds es):Wp (zDo es) isE:=(zOm es h).mono fun v ⟨n,e,_⟩=>⟨n,e,trivial⟩
end Go.Proofs.YtdeeimaahdgeaaaGreatDoor.spec
namespace Go.Proofs.YtdeeimaahdgeaaaGreatDoor.spec
open Go Go.Sy
variable [MX]
abbrev Wd:=List Nat×Int
def wdA (base:Int) (w:Wd):AV:=.agg [.str w.1,.int .i64 (base+w.2)]
def wds (base:Int) (ws:List Wd):List AV:=ws.map (wdA base)
def CutR.enc (base:Int):Except Int (List Wd)->AV
 | .error p=>.tup [.nilslice,.agg [.int .i64 5,.int .i64 (base+p)]]
 | .ok ws=>.tup [.lst 2 (wds base ws),.agg [.int .i64 0,.int .i64 0]]
def CutR.Ok (n:Nat):Except Int (List Wd)->Prop
 | .error p=>0<=p/\p<=n
 | .ok ws=>ws.length<=n+1/\∀w∈ws,w.1.length<=n/\0<=w.2/\w.2<=n
def RC (n:Nat) (base:Int) (o o0:Option AV):Prop:=∃r,CutR.Ok n r/\o=some (CutR.enc base r)/\o0=some (CutR.enc 0 r)
section
variable {n:Nat} {base:Int}
theorem RC.fault {p:Int} (h0:0<=p) (h1:p<=n) {a a0:Int} (ha:a=base+p) (ha0:a0=0+p):RC n base (some (.tup [.nilslice,.agg [.int .i64 5,.int .i64 a]])) (some (.tup [.nilslice,.agg [.int .i64 5,.int .i64 a0]])):=by
 subst ha;subst ha0;exact ⟨.error p,⟨h0,h1⟩,rfl,rfl⟩
end
section
variable {β:Type} {R:Option β->Option β->Prop}
theorem R2.br {c:Bool} {x y x0 y0:Option β} (h1:c=true->R x x0) (h2:c=false->R y y0):R (br c x y) (br c x0 y0):=by
 cases c
 ·exact h2 rfl
 ·exact h1 rfl
theorem R2.ite {p:Prop} [Decidable p] {x y x0 y0:Option β} (h1:p->R x x0) (h2:¬p->R y y0):R (Go.Sy.br (decide p) x y) (Go.Sy.br (decide p) x0 y0):=
 R2.br (fun h=>h1 (of_decide_eq_true h)) fun h=>h2 (of_decide_eq_false h)
theorem R2.gd {p:Prop} [Decidable p] {x x0:Option β} (h:p) (k:R x x0):R (gd (decide p) x) (gd (decide p) x0):=by
 rw [decide_eq_true h];exact k
theorem R2.gd2 {p p0:Prop} [Decidable p] [Decidable p0] {x x0:Option β} (h:p) (h0:p0) (k:R x x0):R (Go.Sy.gd (decide p) x) (Go.Sy.gd (decide p0) x0):=by
 rw [decide_eq_true h,decide_eq_true h0];exact k
theorem R2.bd {α:Type} {o:Option α} {f f0:α->Option β} {a:α} (h:o=some a) (k:R (f a) (f0 a)):R (bd o f) (bd o f0):=by
 subst h;exact k
end
theorem zCS (base:Int) (ws:List Wd):(wds base ws).length=ws.length:=List.length_map _
theorem zOM (base:Int) (ws:List Wd) (s:List Nat) (p:Int):wds base ws++[.agg [.str s,.int .i64 (base+p)]]=wds base (ws++[(s,p)]):=by
 unfold wds;rw [List.map_append];rfl
section
variable {line:List Nat} {base:Int} (hl:line.length<=65536) (hb0:0<=base) (hb1:base<=1000000)
theorem zQ3 (hl:line.length<=65536) (hb0:0<=base) (hb1:base<=1000000) (e:Nat) (he:e<=line.length) (a b a0 b0:Int):∀(f i st fr q:Nat) (ws:List Wd),i<=e+1->e+1-i<f->fr<=i->q<=i->fr<=line.length->q<=line.length->(st=0\/st=1\/st=2\/st=3)->(st=1->fr<i)->ws.length<=i->(∀w∈ws,w.1.length<=line.length/\0<=w.2/\w.2<=line.length) →
  RC line.length base (zB9 f line base (Int.ofNat st) (Int.ofNat fr) (Int.ofNat q) (Int.ofNat e) (Int.ofNat i) a b (wds base ws)) (zB9 f line 0 (Int.ofNat st) (Int.ofNat fr) (Int.ofNat q) (Int.ofNat e) (Int.ofNat i) a0 b0 (wds 0 ws)):=by
 intro f
 induction f with
 | zero=>intro i _ _ _ _ _ h;omega
 | succ f ih=>
  intro i st fr q ws hi hf hfr hq hfl hql hst hst1 hws hwo;have wr:∀(x:Nat),x<=line.length->∀(bb:Int),0<=bb->bb<=1000000->wrapx .i64 (bb+Int.ofNat x)=bb+Int.ofNat x:=fun x hx bb h0 h1=>zK (by rw [Int.ofNat_eq_natCast];omega) (by rw [Int.ofNat_eq_natCast];omega)
  have next:∀(st' fr' q':Nat) (ws':List Wd),i<=e->fr'<=i+1->q'<=i+1->fr'<=line.length->q'<=line.length->(st'=0\/st'=1\/st'=2\/st'=3)->(st'=1->fr'<i+1)->ws'.length<=i+1->(∀w∈ws',w.1.length<=line.length/\0<=w.2/\w.2<=line.length) →
    RC line.length base (z4 f line base (Int.ofNat st') (Int.ofNat fr') (Int.ofNat q') (Int.ofNat e) (Int.ofNat i) a b (wds base ws')) (z4 f line 0 (Int.ofNat st') (Int.ofNat fr') (Int.ofNat q') (Int.ofNat e) (Int.ofNat i) a0 b0 (wds 0 ws')):=fun st' fr' q' ws' hie h1 h2 h3 h4 h5 h6 h7 h8=>by
   rw [zGs,zGs,z5 (by omega)]
   exact ih (i+1) st' fr' q' ws' (by omega) (by omega) h1 h2 h3 h4 h5 h6 h7 h8
  rw [zFB,zFB];refine R2.ite (fun hie=>?_) fun _=>⟨.ok ws,⟨by omega,hwo⟩,rfl,rfl⟩
  have hie:i<=e:=by rw [Int.ofNat_eq_natCast,Int.ofNat_eq_natCast] at hie;omega
  have hil:i<=line.length:=by omega
  have flt:∀(x:Nat),x<=line.length->RC line.length base (some (.tup [.nilslice,.agg [.int .i64 5,.int .i64 (wrapx .i64 (base+Int.ofNat x))]])) (some (.tup [.nilslice,.agg [.int .i64 5,.int .i64 (wrapx .i64 (0+Int.ofNat x))]])):=fun x hx=>
   RC.fault (p:=Int.ofNat x) (Int.natCast_nonneg _) (Int.ofNat_le.2 hx) (wr x hx base hb0 hb1) (wr x hx 0 (Int.le_refl _) (by omega))
  have body:∀c:Int,(i=e->c=32)->RC line.length base (zCG f line base (Int.ofNat st) (Int.ofNat fr) (Int.ofNat q) (Int.ofNat e) (Int.ofNat i) c a b (wds base ws)) (zCG f line 0 (Int.ofNat st) (Int.ofNat fr) (Int.ofNat q) (Int.ofNat e) (Int.ofNat i) c a0 b0 (wds 0 ws)):=fun c hc=>by
   rw [zGv,zGv];have j3:∀t,RC line.length base (zCE f line base (Int.ofNat st) (Int.ofNat fr) (Int.ofNat q) (Int.ofNat e) (Int.ofNat i) t a b (wds base ws)) (zCE f line 0 (Int.ofNat st) (Int.ofNat fr) (Int.ofNat q) (Int.ofNat e) (Int.ofNat i) t a0 b0 (wds 0 ws)):=fun t=>by
    rw [zGt,zGt];exact R2.br (fun _=>flt q hql) fun _=>next st fr q ws hie (by omega) (by omega) hfl hql hst (fun h=>by have:=hst1 h;omega) (by omega) hwo
   refine R2.br (fun _=>R2.br (fun _=>flt q hql) fun _=>R2.br (fun _=>next 3 fr q ws hie (by omega) (by omega) hfl hql (.inr (.inr (.inr rfl))) (fun h=>by cases h) (by omega) hwo) fun _=>R2.ite (fun _=>j3 _) fun _=>j3 _) fun h2=>?_
   have hst2:st≠2:=by
    intro h;subst h;simp at h2
   refine R2.br (fun _=>R2.br (fun _=>?_) fun _=>next 0 fr q ws hie (by omega) (by omega) hfl hql (.inl rfl) (fun h=>by cases h) (by omega) hwo) fun hc32=>?_
   ·refine R2.gd ⟨Int.natCast_nonneg _,Int.ofNat_le.2 hfr,Int.ofNat_le.2 hil⟩ (R2.gd2 (zHH (k:=24) (show (wds base ws).length+1<=_ by rw [zCS];omega) (by omega)) (zHH (k:=24) (show (wds 0 ws).length+1<=_ by rw [zCS];omega) (by omega)) ?_)
    have w1:=wr fr hfl base hb0 hb1;have w0:=wr fr hfl 0 (Int.le_refl _) (by omega)
    rw [w1,w0];have e1:=zOM base ws (List.drop (Int.toNat (Int.ofNat fr)) (List.take (Int.toNat (Int.ofNat i)) line)) (Int.ofNat fr);have e0:=zOM 0 ws (List.drop (Int.toNat (Int.ofNat fr)) (List.take (Int.toNat (Int.ofNat i)) line)) (Int.ofNat fr);have:=next 0 fr q (ws++[(List.drop (Int.toNat (Int.ofNat fr)) (List.take (Int.toNat (Int.ofNat i)) line),Int.ofNat fr)]) hie (by omega) (by omega) hfl hql (.inl rfl) (fun h=>by cases h) (by rw [List.length_append];show ws.length+1<=_;omega) (fun w hw=>by
     rcases List.mem_append.1 hw with hw | hw
     ·exact hwo w hw
     ·rw [List.mem_singleton.1 hw];refine ⟨?_,Int.natCast_nonneg _,Int.ofNat_le.2 hfl⟩
      rw [List.length_drop,List.length_take];omega)
    rw [←e1,←e0] at this;exact this
   ·have hne:i≠e:=fun h=>by rw [hc h] at hc32;cases hc32
    have j4:∀t,RC line.length base (zCF f line base (Int.ofNat st) (Int.ofNat fr) (Int.ofNat q) (Int.ofNat e) (Int.ofNat i) c t (Int.ofNat 5) (wrapx .i64 (base+Int.ofNat i)) a b (wds base ws)) (zCF f line 0 (Int.ofNat st) (Int.ofNat fr) (Int.ofNat q) (Int.ofNat e) (Int.ofNat i) c t (Int.ofNat 5) (wrapx .i64 (0+Int.ofNat i)) a0 b0 (wds 0 ws)):=fun t=>by
     rw [zGu,zGu];refine R2.br (fun _=>flt i hil) fun _=>R2.br (fun _=>R2.br (fun _=>flt i hil) fun _=>next 1 i q ws hie (by omega) (by omega) hil hql (.inr (.inl rfl)) (fun _=>by omega) (by omega) hwo) fun h0=>R2.br (fun _=>flt i hil) fun h3=>R2.br (fun _=>?_) fun _=>next st fr q ws hie (by omega) (by omega) hfl hql hst (fun h=>by have:=hst1 h;omega) (by omega) hwo
     have hs1:st=1:=by
      rcases hst with h | h | h | h
      ·subst h;simp at h0
      ·exact h
      ·exact absurd h hst2
      ·subst h;simp at h3
     have hlt:=hst1 hs1;have hw:wrapx .i64 (Int.ofNat i-1)=Int.ofNat (i-1):=zDy (by omega) (by omega)
     rw [hw];refine R2.bd (zBL (show i-1<line.length by omega)) (R2.br (fun _=>flt i hil) fun _=>R2.gd ⟨Int.natCast_nonneg _,Int.ofNat_le.2 hfr,Int.ofNat_le.2 hil⟩ ?_)
     obtain ⟨z,hz⟩:=zIC (List.drop (Int.toNat (Int.ofNat fr)) (List.take (Int.toNat (Int.ofNat i)) line)) 61;exact rk_i hz (R2.br (fun _=>flt i hil) fun _=>next 2 fr i ws hie (by omega) (by omega) hfl hil (.inr (.inr (.inl rfl))) (fun h=>by cases h) (by omega) hwo)
    exact R2.ite (fun _=>j4 _) fun _=>j4 _
  refine R2.ite (fun hlt=>?_) fun hge=>body _ fun _=>rfl
  have hlt:i<e:=by rw [Int.ofNat_eq_natCast,Int.ofNat_eq_natCast] at hlt;omega
  exact R2.bd (zBL (show i<line.length by omega)) (body _ fun h=>by omega)
theorem zQ4 (hl:line.length<=65536) (hb0:0<=base) (hb1:base<=1000000):RC line.length base (zBM line base) (zBM line 0):=by
 rw [zIF,zIF];have hr:∃z:Int,zFi line=some (.int .i64 z)/\(z<0\/∃k:Nat,z=Int.ofNat k/\k<=line.length):=by
  rw [zKR];have h1:=Lib.indexByte_ge (line.map UInt8.ofNat) (35:Int).toNat.toUInt8;refine ⟨Lib.indexByte (line.map UInt8.ofNat) (35:Int).toNat.toUInt8,rfl,?_⟩
  by_cases h:Lib.indexByte (line.map UInt8.ofNat) (35:Int).toNat.toUInt8<0
  ·exact .inl h
  ·obtain ⟨o,ho⟩:=Int.eq_ofNat_of_zero_le (show 0<=Lib.indexByte (line.map UInt8.ofNat) (35:Int).toNat.toUInt8 by omega)
   refine .inr ⟨o,by rw [ho];rfl,?_⟩
   have:=(List.getElem?_eq_some_iff.1 (Lib.indexByte_some ho).1).1;rw [List.length_map] at this;omega
 obtain ⟨z,hz,hk⟩:=hr;have go:∀e:Nat,e<=line.length->RC line.length base (zCH line base (Int.ofNat 0) (Int.ofNat 0) (Int.ofNat 0) (Int.ofNat e) (Int.ofNat 0) (Int.ofNat 0)) (zCH line 0 (Int.ofNat 0) (Int.ofNat 0) (Int.ofNat 0) (Int.ofNat e) (Int.ofNat 0) (Int.ofNat 0)):=fun e he=>by
  rw [zGw,zGw];exact zQ3 hl hb0 hb1 e he _ _ _ _ FUEL 0 0 0 0 [] (by omega) (zAf (by omega)) (Nat.le_refl _) (Nat.le_refl _) (Nat.zero_le _) (Nat.zero_le _) (.inl rfl) (fun h=>by cases h) (Nat.le_refl _) fun w hw=>by cases hw
 refine rk_i hz (R2.ite (fun h=>?_) fun _=>go line.length (Nat.le_refl _))
 rcases hk with hk | ⟨k,rfl,hk⟩
 ·omega
 ·exact go k hk
end
end Go.Proofs.YtdeeimaahdgeaaaGreatDoor.spec
namespace Go.Proofs.YtdeeimaahdgeaaaGreatDoor.spec
open Go Go.Sy
variable [MX]
theorem zDg (s:List Nat) (hs:s.length<=65536):Wp (zAg s) fun v=>∃z b,v=.tup [.int .i64 z,.bool b]/\True:=by
 have loop:∀(f i:Nat) (x:Int),i<=s.length->s.length-i<f->Wp (zB4 f x (Int.ofNat (s.map fun b=>AV.int IntKind.u8 (Int.ofNat b)).length) (Int.ofNat i) (s.map fun b=>AV.int IntKind.u8 (Int.ofNat b))) fun v=>∃z b,v=.tup [.int .i64 z,.bool b]/\True:=by
  intro f
  induction f with
  | zero=>intro i x _ h;omega
  | succ f ih=>
   intro i x hi hf;rw [zIm];refine Wp.ite (fun hlt=>?_) fun _=>Wp.mk ⟨_,_,rfl,trivial⟩
   have hlt:i<s.length:=by rw [List.length_map,Int.ofNat_eq_natCast,Int.ofNat_eq_natCast] at hlt;omega
   refine zTc hlt (qk_u (zQf hlt) (Wp.ite (fun _=>Wp.mk ⟨_,_,rfl,trivial⟩) fun _=>Wp.ite (fun _=>Wp.mk ⟨_,_,rfl,trivial⟩) fun _=>?_))
   rw [zIJ,z5 (by omega)]
   exact ih (i+1) _ hlt (by omega)
 have j0:Wp (zCq s) fun v=>∃z b,v=.tup [.int .i64 z,.bool b]/\True:=by
  rw [zIK];exact loop FUEL 0 _ (Nat.zero_le _) (zAf (by omega))
 rw [zKS];refine Wp.if (fun _=>Wp.mk ⟨_,_,rfl,trivial⟩) fun h=>?_
 have h0:0<s.length:=by
  cases s with
  | nil=>cases h
  | cons a r=>exact Nat.succ_pos _
 refine Wp.bd (R:=fun _=>True) ⟨_,zBL (i:=0) h0,trivial⟩ fun c _=>Wp.if (fun _=>Wp.ite (fun _=>Wp.mk ⟨_,_,rfl,trivial⟩) fun _=>j0) fun _=>j0
theorem zQ5 (s:List Nat) (l:List (List Nat)) (hl:l.length<=1000):Wp (zAB (l.map .str) s) isE:=by
 have loop:∀(f i:Nat),i<=l.length->l.length-i<f->Wp (zR f (l.map .str) s (Int.ofNat l.length) (Int.ofNat i)) isE:=by
  intro f
  induction f with
  | zero=>intro i _ h;omega
  | succ f ih=>
   intro i hi hf;rw [zDK];refine Wp.lt (fun hlt=>qk_s (zJ0 hlt) (Wp.if (fun _=>Wp.mk ⟨_,rfl,trivial⟩) fun _=>?_)) fun _=>Wp.mk ⟨_,rfl,trivial⟩
   rw [z5 (by omega)]
   exact ih (i+1) hlt (by omega)
 rw [zEj,List.length_map];exact loop FUEL 0 (Nat.zero_le _) (zAf (by omega))
theorem zSy (s:List Nat):Wp (zHm s) isE:=by
 rw [zMa];refine zRo zLJ (wk_i (zQ5 s [[102,114,101,101],[98,97,116,99,104],[112,114,111,100],[109,111,110,105,116,111,114,105,110,103]] (by decide)) fun z _=>Wp.mk ⟨_,rfl,trivial⟩)
theorem zON:Nds []:=⟨fun e he=>(by cases he),by decide⟩
theorem zL8:Nds [ndAV (Int.ofNat 1) [] [] (Int.ofNat 0) (Int.negSucc 0) (Int.negSucc 0)]:=⟨fun e he=>by
 rw [List.mem_singleton.1 he];exact ⟨_,_,_,_,_,_,rfl,by decide,by decide,by decide,by decide⟩,by decide⟩
def RdW (o:Option (AV×Heap×Vecs)):Prop:=∃(ok:Bool) (k:Int) (n:List Nat) (u:List Nat) (b:Int) (c:Int) (d:Int) (i_:List Nat) (x1:Int) (x2:Int) (x3:Int) (x4:Int) (r:List AV) (ba:Int) (v:List Nat),o=some (.bool ok,[(0,.cells false [.int .i64 k,.str n,.str u,.int .i64 b,.int .i64 c,.int .i64 d,.str i_,.int .i64 x1,.int .i64 x2,.int .i64 x3,.int .i64 x4,.lst 6 r,.int .i64 ba,.str v])],[])/\Nds r/\v.length<=65536
section
variable {k:Int} {n:List Nat} {u:List Nat} {b:Int} {c:Int} {d:Int} {i_:List Nat} {x1:Int} {x2:Int} {x3:Int} {x4:Int} {r:List AV} {ba:Int} {v:List Nat} (hr:Nds r) (hv:v.length<=65536)
theorem zSz (hr:Nds r) (hv:v.length<=65536):RdW (zDh k n u b c d i_ x1 x2 x3 x4 r ba v):=by
 rw [zHQ];obtain ⟨_,e,x,rfl,_⟩:=zDe v;rw [e];exact ⟨_,_,_,_,_,_,_,_,_,_,_,_,_,_,_,rfl,hr,hv⟩
theorem zTE (hr:Nds r) (hv:v.length<=65536):RdW (zD3 k n u b c d i_ x1 x2 x3 x4 r ba v):=by
 rw [zIL];obtain ⟨_,e,x,rfl,_⟩:=zDe v;rw [e];exact ⟨_,_,_,_,_,_,_,_,_,_,_,_,_,_,_,rfl,hr,hv⟩
theorem zSA (hr:Nds r) (hv:v.length<=65536):RdW (zDi k n u b c d i_ x1 x2 x3 x4 r ba v):=by
 rw [zHR];obtain ⟨_,e,x,rfl,_⟩:=zSy v;rw [e,ek_i];exact ⟨_,_,_,_,_,_,_,_,_,_,_,_,_,_,_,rfl,hr,hv⟩
theorem zSB (hr:Nds r) (hv:v.length<=65536):RdW (zDn k n u b c d i_ x1 x2 x3 x4 r ba v):=by
 rw [zHX];obtain ⟨_,e,hp⟩:=zLE v;rw [e];rcases hp with ⟨x,y,rfl,_⟩ | ⟨l,rfl,hw,hl⟩
 ·exact ⟨_,_,_,_,_,_,_,_,_,_,_,_,_,_,_,rfl,zON,hv⟩
 ·exact ⟨_,_,_,_,_,_,_,_,_,_,_,_,_,_,_,rfl,zRs hw hl,hv⟩
theorem zII (hr:Nds r) (hv:v.length<=65536):RdW (zCr k n u b c d i_ x1 x2 x3 x4 r ba v):=by
 rw [zGH];obtain ⟨_,e,z,x,rfl,_⟩:=zDg v hv;rw [e,zEK];exact ⟨_,_,_,_,_,_,_,_,_,_,_,_,_,_,_,rfl,hr,hv⟩
theorem zHi (hr:Nds r) (hv:v.length<=65536):RdW (zBz k n u b c d i_ x1 x2 x3 x4 r ba v):=by
 rw [zFk];obtain ⟨_,e,z,x,rfl,_⟩:=zDg v hv;rw [e,zEK];exact ⟨_,_,_,_,_,_,_,_,_,_,_,_,_,_,_,rfl,hr,hv⟩
theorem zHj (hr:Nds r) (hv:v.length<=65536):RdW (zBA k n u b c d i_ x1 x2 x3 x4 r ba v):=by
 rw [zFl];obtain ⟨_,e,z,x,rfl,_⟩:=zDg v hv;rw [e,zEK];exact ⟨_,_,_,_,_,_,_,_,_,_,_,_,_,_,_,rfl,hr,hv⟩
theorem zHk (hr:Nds r) (hv:v.length<=65536):RdW (zBB k n u b c d i_ x1 x2 x3 x4 r ba v):=by
 rw [zFm];obtain ⟨_,e,z,x,rfl,_⟩:=zDg v hv;rw [e,zEK];exact ⟨_,_,_,_,_,_,_,_,_,_,_,_,_,_,_,rfl,hr,hv⟩
theorem zJy (hr:Nds r) (hv:v.length<=65536):RdW (zCT k n u b c d i_ x1 x2 x3 x4 r ba v):=by
 rw [zHn];obtain ⟨_,e,z,x,rfl,_⟩:=zDg v hv;rw [e,zEK];exact ⟨_,_,_,_,_,_,_,_,_,_,_,_,_,_,_,rfl,hr,hv⟩
theorem zHJ (hr:Nds r) (hv:v.length<=65536):RdW (zBY k n u b c d i_ x1 x2 x3 x4 r ba v):=by
 rw [zFU];obtain ⟨_,e,z,x,rfl,_⟩:=zDg v hv;rw [e,zEK];exact ⟨_,_,_,_,_,_,_,_,_,_,_,_,_,_,_,rfl,hr,hv⟩
theorem zHK (hr:Nds r) (hv:v.length<=65536):RdW (zBZ k n u b c d i_ x1 x2 x3 x4 r ba v):=by
 rw [zFV];obtain ⟨_,e,z,x,rfl,_⟩:=zDg v hv;rw [e,zEK];exact ⟨_,_,_,_,_,_,_,_,_,_,_,_,_,_,_,rfl,hr,hv⟩
theorem zQ6 (hr:Nds r) (hv:v.length<=65536):RdW (zCU k n u b c d i_ x1 x2 x3 x4 r ba v):=by
 rw [zHo];obtain ⟨ok,k',n',u',b',c',d',i_',x1',x2',x3',x4',r',ba',v',e,hr',hv'⟩:=zJy (k:=k) (n:=n) (u:=u) (b:=b) (c:=c) (d:=d) (i_:=i_) (x1:=x1) (x2:=x2) (x3:=x3) (x4:=x4) (ba:=ba) hr hv;rw [e,zL];exact ⟨_,_,_,_,_,_,_,_,_,_,_,_,_,_,_,rfl,hr',hv'⟩
theorem zSC (hr:Nds r) (hv:v.length<=65536):RdW (zDj k n u b c d i_ x1 x2 x3 x4 r ba v):=by
 rw [zHS];obtain ⟨ok,k',n',u',b',c',d',i_',x1',x2',x3',x4',r',ba',v',e,hr',hv'⟩:=zHJ (k:=k) (n:=n) (u:=u) (b:=b) (c:=c) (d:=d) (i_:=i_) (x1:=x1) (x2:=x2) (x3:=x3) (x4:=x4) (ba:=ba) hr hv;rw [e,zL];exact ⟨_,_,_,_,_,_,_,_,_,_,_,_,_,_,_,rfl,hr',hv'⟩
theorem zQ7 (hr:Nds r) (hv:v.length<=65536):RdW (zCX k n u b c d i_ x1 x2 x3 x4 r ba v):=by
 rw [zHt];obtain ⟨ok,k',n',u',b',c',d',i_',x1',x2',x3',x4',r',ba',v',e,hr',hv'⟩:=zHK (k:=k) (n:=n) (u:=u) (b:=b) (c:=c) (d:=d) (i_:=i_) (x1:=x1) (x2:=x2) (x3:=x3) (x4:=x4) (ba:=ba) hr hv;rw [e,zL];exact ⟨_,_,_,_,_,_,_,_,_,_,_,_,_,_,_,rfl,hr',hv'⟩
theorem zTk (hr:Nds r) (hv:v.length<=65536):RdW (zDH k n u b c d i_ x1 x2 x3 x4 r ba v):=by
 rw [zIn];obtain ⟨ok,k',n',u',b',c',d',i_',x1',x2',x3',x4',r',ba',v',e,hr',hv'⟩:=zII (k:=k) (n:=n) (u:=u) (b:=b) (c:=c) (d:=d) (i_:=i_) (x1:=x1) (x2:=x2) (x3:=x3) (x4:=x4) (ba:=ba) hr hv;rw [e,zL];exact ⟨_,_,_,_,_,_,_,_,_,_,_,_,_,_,_,rfl,hr',hv'⟩
theorem zTl (hr:Nds r) (hv:v.length<=65536):RdW (zDI k n u b c d i_ x1 x2 x3 x4 r ba v):=by
 rw [zIo];obtain ⟨ok,k',n',u',b',c',d',i_',x1',x2',x3',x4',r',ba',v',e,hr',hv'⟩:=zHi (k:=k) (n:=n) (u:=u) (b:=b) (c:=c) (d:=d) (i_:=i_) (x1:=x1) (x2:=x2) (x3:=x3) (x4:=x4) (ba:=ba) hr hv;rw [e,zL];exact ⟨_,_,_,_,_,_,_,_,_,_,_,_,_,_,_,rfl,hr',hv'⟩
theorem zSD (hr:Nds r) (hv:v.length<=65536):RdW (zDk k n u b c d i_ x1 x2 x3 x4 r ba v):=by
 rw [zHT];obtain ⟨ok,k',n',u',b',c',d',i_',x1',x2',x3',x4',r',ba',v',e,hr',hv'⟩:=zHj (k:=k) (n:=n) (u:=u) (b:=b) (c:=c) (d:=d) (i_:=i_) (x1:=x1) (x2:=x2) (x3:=x3) (x4:=x4) (ba:=ba) hr hv;rw [e,zL];exact ⟨_,_,_,_,_,_,_,_,_,_,_,_,_,_,_,rfl,hr',hv'⟩
theorem zQ8 (hr:Nds r) (hv:v.length<=65536):RdW (zCV k n u b c d i_ x1 x2 x3 x4 r ba v):=by
 rw [zHp];obtain ⟨ok,k',n',u',b',c',d',i_',x1',x2',x3',x4',r',ba',v',e,hr',hv'⟩:=zHk (k:=k) (n:=n) (u:=u) (b:=b) (c:=c) (d:=d) (i_:=i_) (x1:=x1) (x2:=x2) (x3:=x3) (x4:=x4) (ba:=ba) hr hv;rw [e,zL];exact ⟨_,_,_,_,_,_,_,_,_,_,_,_,_,_,_,rfl,hr',hv'⟩
end
theorem zEi (x l m:Int):Wp (zAx x l m) isB:=by
 rw [zK0];exact Wp.if (fun _=>Wp.mk ⟨_,rfl,trivial⟩) fun _=>Wp.mk ⟨_,rfl,trivial⟩
theorem zQ9 (r:List AV) (hr:Nds r):Wp (zGq r) isB:=by
 rw [zLO];exact zSo zDJ (wk_b (zJx r _ hr zL8) fun x _=>Wp.mk ⟨_,rfl,trivial⟩)
theorem zF (t:Bool):Wp (zh t) isE:=by
 rw [zJF];exact Wp.if (fun _=>Wp.mk ⟨_,rfl,trivial⟩) fun _=>Wp.mk ⟨_,rfl,trivial⟩
section
variable {k:Int} {n:List Nat} {u:List Nat} {b:Int} {c:Int} {d:Int} {i_:List Nat} {x1:Int} {x2:Int} {x3:Int} {x4:Int} {r:List AV} {ba:Int}
theorem zRa (t:Bool) (hr:Nds r):Wp (zAe t k n u b c d i_ x1 x2 x3 x4 r ba) isE:=by
 rw [zJG];exact Wp.if (fun _=>wk_i (zLF r hr) fun z _=>Wp.if (fun _=>Wp.if (fun _=>zF _) fun _=>wk_b (zDe i_) fun x _=>Wp.if (fun _=>wk_b (zQ9 r hr) fun x _=>zF _) fun _=>zF _) fun _=>zF _) fun _=>zF _
theorem zRb (t:Bool) (hr:Nds r):Wp (zBQ t k n u b c d i_ x1 x2 x3 x4 r ba) isE:=by
 rw [zJH];have j2:=fun t=>zRa (k:=k) (n:=n) (u:=u) (b:=b) (c:=c) (d:=d) (i_:=i_) (x1:=x1) (x2:=x2) (x3:=x3) (x4:=x4) (ba:=ba) t hr
 refine Wp.if (fun _=>Wp.if (fun _=>wk_b (zDe u) fun x _=>Wp.if (fun _=>wk_b (zEi ..) fun x _=>Wp.if (fun _=>wk_b (zEi ..) fun x _=>Wp.if (fun _=>wk_b (zEi ..) fun x _=>Wp.if (fun _=>j2 _) fun _=>j2 _) fun _=>j2 _) fun _=>j2 _) fun _=>j2 _) fun _=>j2 _) fun _=>Wp.if (fun _=>Wp.if (fun _=>wk_b (zDe u) fun x _=>Wp.if (fun _=>wk_b (zEi ..) fun x _=>Wp.if (fun _=>wk_b (zEi ..) fun x _=>Wp.if (fun _=>Wp.if (fun _=>Wp.if (fun _=>Wp.if (fun _=>wk_i (zLF r hr) fun z _=>zF _) fun _=>zF _) fun _=>zF _) fun _=>zF _) fun _=>zF _) fun _=>zF _) fun _=>zF _) fun _=>zF _) fun _=>Wp.if (fun _=>Wp.if (fun _=>Wp.if (fun _=>Wp.if (fun _=>Wp.if (fun _=>Wp.if (fun _=>Wp.if (fun _=>Wp.if (fun _=>wk_b (zEi ..) fun x _=>zF _) fun _=>zF _) fun _=>zF _) fun _=>zF _) fun _=>zF _) fun _=>zF _) fun _=>zF _) fun _=>zF _) fun _=>zF _
theorem zPo (hr:Nds r):Wp (zGr k n u b c d i_ x1 x2 x3 x4 r ba) isE:=by
 rw [zLP];have j0:=fun t=>zRb (k:=k) (n:=n) (u:=u) (b:=b) (c:=c) (d:=d) (i_:=i_) (x1:=x1) (x2:=x2) (x3:=x3) (x4:=x4) (ba:=ba) t hr
 exact wk_b (zDe n) fun x _=>Wp.if (fun _=>qk_i (zL3 x1 x2 x3 x4) (Wp.if (fun _=>j0 _) fun _=>j0 _)) fun _=>j0 _
end
theorem zTn (z:Int) (s:List Nat):Wp (zN z s) isB:=by
 have j2:∀a t x,Wp (zDX a t x) isB:=fun a t x=>by
  rw [zKX]
  repeat' first | exact Wp.mk ⟨_,rfl,trivial⟩ | refine Wp.if (fun _=>?_) fun _=>?_
 have j1:∀a t x,Wp (zBG a t x) isB:=fun a t x=>by
  rw [zKY]
  repeat' first | exact Wp.mk ⟨_,rfl,trivial⟩ | exact j2 _ _ _ | refine Wp.if (fun _=>?_) fun _=>?_
 have j0:∀a t x,Wp (zBH a t x) isB:=fun a t x=>by
  rw [zKZ]
  repeat' first | exact Wp.mk ⟨_,rfl,trivial⟩ | exact j1 _ _ _ | refine Wp.if (fun _=>?_) fun _=>?_
 rw [zMU]
 repeat' first | exact j0 _ _ _ | refine Wp.if (fun _=>?_) fun _=>?_
theorem zNY (c:Nat):∀s:List Nat,(cut1 c s).1.length<=s.length/\(cut1 c s).2.1.length<=s.length
 | []=>⟨Nat.le_refl _,Nat.le_refl _⟩
 | x::r=>by
  have ih:=zNY c r;unfold cut1;split
  ·exact ⟨Nat.zero_le _,Nat.le_succ _⟩
  ·revert ih
   rcases cut1 c r with ⟨a,b,f⟩
   intro ih;exact ⟨Nat.succ_le_succ ih.1,Nat.le_succ_of_le ih.2⟩
theorem zRc (s:List Nat) (hs:s.length<=65536):Wp (zGm s) fun v=>∃x y z,v=.tup [.str x,.str y,.bool z]/\y.length<=65536:=by
 have j0:∀x y z,y.length<=65536->Wp (zC4 x y z) fun v=>∃x y z,v=.tup [.str x,.str y,.bool z]/\y.length<=65536:=fun x y z h=>by
  rw [zJB];exact Wp.mk ⟨_,_,_,rfl,h⟩
 have j1:∀x y z t,y.length<=65536->(t=true->2<=y.length)->Wp (zBN x y z t) fun v=>∃x y z,v=.tup [.str x,.str y,.bool z]/\y.length<=65536:=fun x y z t h h2=>by
  rw [zJC];refine Wp.if (fun ht=>?_) fun _=>j0 _ _ _ h
  have:=h2 ht;have e:wrapx .i64 (Int.ofNat y.length-1)=Int.ofNat (y.length-1):=zDy (by omega) (by omega)
  rw [e];refine Wp.gd ⟨by decide,by rw [Int.ofNat_eq_natCast];omega,by rw [Int.ofNat_eq_natCast,Int.ofNat_eq_natCast];omega⟩ (j0 _ _ _ ?_)
  rw [List.length_drop,List.length_take];omega
 rw [zLI];have hc:zID s [61]=some (.tup [.str (cut1 61 s).1,.str (cut1 61 s).2.1,.bool (cut1 61 s).2.2]):=by
  show (match Nat.blt s.length 4294967281&&Nat.blt 61 256 with
   | true=>some (AV.tup [.str (cut1 61 s).1,.str (cut1 61 s).2.1,.bool (cut1 61 s).2.2])
   | false=>none)=_
  rw [show Nat.blt s.length 4294967281=true from by rw [Nat.blt_eq];omega]
  rfl
 have hl:=(zNY 61 s).2;refine zQ1 hc (Wp.ite (fun h=>?_) fun _=>j1 _ _ _ _ (by omega) fun h=>by cases h)
 rw [Int.ofNat_eq_natCast] at h;have e:wrapx .i64 (Int.ofNat (cut1 61 s).2.1.length-1)=Int.ofNat ((cut1 61 s).2.1.length-1):=zDy (by omega) (by omega)
 rw [e];refine Wp.bd (R:=fun _=>True) ⟨_,zBL (i:=0) (show 0<(cut1 61 s).2.1.length by omega),trivial⟩ fun a _=>Wp.if (fun _=>Wp.bd (R:=fun _=>True) ⟨_,zBL (show (cut1 61 s).2.1.length-1<(cut1 61 s).2.1.length by omega),trivial⟩ fun a _=>j1 _ _ _ _ (by omega) fun _=>by omega) fun _=>j1 _ _ _ _ (by omega) fun h=>by cases h
def mapN (ns:List (List Nat)):List (AV×AV):=ns.map fun s=>(.str s,.bool true)
theorem zKs (s:List Nat):∀ns:List (List Nat),mfind false [Kd.s] (.str s) (mapN ns)=if s∈ns then some (some (.bool true)) else some none
 | []=>rfl
 | t::ns=>by
  have h:=zKs s ns;show (match some (seqb s t) with
   | some true=>some (some (AV.bool true))
   | some false=>mfind false [Kd.s] (.str s) (mapN ns)
   | none=>none)=_
  rw [zH3];by_cases e:s=t
  ·subst e;simp
  ·simp only [e,decide_false,List.mem_cons,false_or];exact h
theorem zLG (s:List Nat):∀ns:List (List Nat),∃ns',mput false [Kd.s] (.str s) (.bool true) (mapN ns)=some (mapN ns')
 | []=>⟨[s],rfl⟩
 | t::ns=>by
  obtain ⟨ns',h⟩:=zLG s ns;by_cases e:s=t
  ·subst e;refine ⟨s::ns,?_⟩
   show (match some (seqb s s) with
    | some true=>some ((AV.str s,AV.bool true)::mapN ns)
    | some false=>match mput false [Kd.s] (.str s) (.bool true) (mapN ns) with
     | some r'=>some ((AV.str s,AV.bool true)::r')
     | none=>none
    | none=>none)=_
   rw [zEb];rfl
  ·refine ⟨t::ns',?_⟩
   show (match some (seqb s t) with
    | some true=>some ((AV.str s,AV.bool true)::mapN ns)
    | some false=>match mput false [Kd.s] (.str s) (.bool true) (mapN ns) with
     | some r'=>some ((AV.str t,AV.bool true)::r')
     | none=>none
    | none=>none)=_
   rw [zH3];simp only [e,decide_false,h];rfl
theorem zSE (s:List Nat) (ns:List (List Nat)):∃x,lkR false (AV.bool false) (mfind false [Kd.s] (.str s) (mapN ns))=some (.bool x):=by
 rw [zKs];split
 ·exact ⟨true,rfl⟩
 ·exact ⟨false,rfl⟩
def zN0 (a:AV):Prop:=∃(k:Int) (n:List Nat) (u:List Nat) (b:Int) (c:Int) (d:Int) (i_:List Nat) (x1:Int) (x2:Int) (x3:Int) (x4:Int) (r:List AV) (ba:Int),a=.agg [.int .i64 k,.str n,.str u,.int .i64 b,.int .i64 c,.int .i64 d,.str i_,.int .i64 x1,.int .i64 x2,.int .i64 x3,.int .i64 x4,.lst 6 r,.int .i64 ba]/\Nds r
def zPp:AV:=.agg [.int .i64 0,.str [],.str [],.int .i64 0,.int .i64 0,.int .i64 0,.str [],.int .i64 0,.int .i64 0,.int .i64 0,.int .i64 0,.lst 6 [],.int .i64 0]
def LineR.enc (base:Int):Except Int AV->AV
 | .error p=>.tup [zPp,.agg [.int .i64 5,.int .i64 (base+p)]]
 | .ok a=>.tup [a,.agg [.int .i64 0,.int .i64 0]]
def LineR.Ok (m:Nat):Except Int AV->Prop
 | .error p=>0<=p/\p<=m
 | .ok a=>zN0 a
def RL (m:Nat) (base:Int) (o o0:Option AV):Prop:=∃q,LineR.Ok m q/\o=some (LineR.enc base q)/\o0=some (LineR.enc 0 q)
section
variable {m:Nat} {base:Int}
theorem zIk {β:Type} {R:Option β->Option β->Prop} {us:List Wd} {i:Nat} (hi:i<us.length) {f f0:List Nat->Int->Option β} (k:R (f us[i].1 (base+us[i].2)) (f0 us[i].1 (0+us[i].2))):
  R (dK true [K.agg 2,K.s,K.i IntKind.i64] (ixN (wds base us) (Int.ofNat i)) f) (dK true [K.agg 2,K.s,K.i IntKind.i64] (ixN (wds 0 us) (Int.ofNat i)) f0):=by
 unfold wds;rw [zJ0 hi,zJ0 hi];exact k
noncomputable abbrev badF (a:Int):Option AV:=dK true [K.tup 2,K.agg 13,K.i IntKind.i64,K.s,K.s,K.i IntKind.i64,K.i IntKind.i64,K.i IntKind.i64,K.s,K.i IntKind.i64,K.i IntKind.i64,K.i IntKind.i64,K.i IntKind.i64,K.l 6,K.i IntKind.i64,K.agg 2,K.i IntKind.i64,K.i IntKind.i64] (zg a) fun a1 a2 a3 a4 a5 a6 a7 a8 a9 a10 a11 a12 a13 a14 a15=>some (AV.tup [AV.agg [AV.int IntKind.i64 a1,AV.str a2,AV.str a3,AV.int IntKind.i64 a4,AV.int IntKind.i64 a5,AV.int IntKind.i64 a6,AV.str a7,AV.int IntKind.i64 a8,AV.int IntKind.i64 a9,AV.int IntKind.i64 a10,AV.int IntKind.i64 a11,AV.lst 6 a12,AV.int IntKind.i64 a13],AV.agg [AV.int IntKind.i64 a14,AV.int IntKind.i64 a15]])
theorem zJ5 {p:Int} (h0:0<=p) (h1:p<=m):RL m base (badF (base+p)) (badF (0+p)):=by
 refine ⟨.error p,⟨h0,h1⟩,?_,?_⟩
 ·unfold badF;rw [zGx];rfl
 ·unfold badF;rw [zGx];rfl
theorem zBp {R:Option AV->Option AV->Prop} {J J0:Bool->Option AV} (hJ:∀t,R (J t) (J0 t)) (b1:Bool) (s:List Nat) (ns:List (List Nat)) (z:Int):
  R (br (!b1) (J true) (dK true [K.b] (lkR false (AV.bool false) (mfind false [Kd.s] (AV.str s) (mapN ns))) fun b2=>br b2 (J true) (dK true [K.b] (zN z s) fun b3=>J (!b3)))) (br (!b1) (J0 true) (dK true [K.b] (lkR false (AV.bool false) (mfind false [Kd.s] (AV.str s) (mapN ns))) fun b2=>br b2 (J0 true) (dK true [K.b] (zN z s) fun b3=>J0 (!b3)))):=by
 obtain ⟨x,hx⟩:=zSE s ns;obtain ⟨_,e,y,rfl,_⟩:=zTn z s;exact R2.br (fun _=>hJ _) fun _=>rk_b hx (R2.br (fun _=>hJ _) fun _=>rk_b e (hJ _))
theorem zQq (ws us:List Wd) (hw0:0<ws.length) (hws:∀w∈ws,w.1.length<=65536/\0<=w.2/\w.2<=m) (hus:∀w∈us,w.1.length<=65536/\0<=w.2/\w.2<=m) (hul:us.length<=100000) (e0:Int) (e1:List Nat) (e2:List Nat) (e3:Int) (e4:Int) (e5:Int) (e6:List Nat) (e7:Int) (e8:Int) (e9:Int) (e10:Int) (e12:Int) (g0:Int) (g1:Int):∀(f i:Nat) (k:Int) (n:List Nat) (u:List Nat) (b:Int) (c:Int) (d:Int) (i_:List Nat) (x1:Int) (x2:Int) (x3:Int) (x4:Int) (r:List AV) (ba:Int) (v:List Nat) (ns:List (List Nat)),i<=us.length->us.length-i<f->Nds r->v.length<=65536 →
  RL m base (zl f (wds base ws) (wds base us) (Int.ofNat us.length) (Int.ofNat i) k n u b c d i_ x1 x2 x3 x4 r ba v e0 e1 e2 e3 e4 e5 e6 e7 e8 e9 e10 e12 g0 g1 (mapN ns)) (zl f (wds 0 ws) (wds 0 us) (Int.ofNat us.length) (Int.ofNat i) k n u b c d i_ x1 x2 x3 x4 r ba v e0 e1 e2 e3 e4 e5 e6 e7 e8 e9 e10 e12 g0 g1 (mapN ns)):=by
 intro f
 induction f with
 | zero=>intro i k n u b c d i_ x1 x2 x3 x4 r ba v ns _ hh;omega
 | succ f ih=>
  intro i k n u b c d i_ x1 x2 x3 x4 r ba v ns hi hf hr hv;rw [zFh,zFh];refine R2.ite (fun hlt=>?_) fun _=>?_
  ·have hlt:i<us.length:=by rw [Int.ofNat_eq_natCast,Int.ofNat_eq_natCast] at hlt;omega
   have hw:=hus _ (List.getElem_mem hlt);refine zIk hlt ?_
   generalize us[i].1=s at hw ⊢;generalize us[i].2=p at hw ⊢;obtain ⟨_,ev,s4,s5,b1,rfl,hs5⟩:=zRc s hw.1;refine zQ2 ev (zTe zMc ?_)
   have bad:RL m base (badF (base+p)) (badF (0+p)):=zJ5 hw.2.1 hw.2.2;have tail:∀{o:Option (AV×Heap×Vecs)},RdW o->RL m base (bd (mput false [Kd.s] (AV.str s4) (AV.bool true) (mapN ns)) fun x=>dD true [D.v K.b,D.hc 0 false 14,D.v (K.i IntKind.i64),D.v K.s,D.v K.s,D.v (K.i IntKind.i64),D.v (K.i IntKind.i64),D.v (K.i IntKind.i64),D.v K.s,D.v (K.i IntKind.i64),D.v (K.i IntKind.i64),D.v (K.i IntKind.i64),D.v (K.i IntKind.i64),D.v (K.l 6),D.v (K.i IntKind.i64),D.v K.s] o fun ok k' n' u' b' c' d' i_' x1' x2' x3' x4' r' ba' v'=>br (!ok) (badF (base+p)) (zl f (wds base ws) (wds base us) (Int.ofNat us.length) (wrapx .i64 (Int.ofNat i+1)) k' n' u' b' c' d' i_' x1' x2' x3' x4' r' ba' v' e0 e1 e2 e3 e4 e5 e6 e7 e8 e9 e10 e12 g0 g1 x)) (bd (mput false [Kd.s] (AV.str s4) (AV.bool true) (mapN ns)) fun x=>dD true [D.v K.b,D.hc 0 false 14,D.v (K.i IntKind.i64),D.v K.s,D.v K.s,D.v (K.i IntKind.i64),D.v (K.i IntKind.i64),D.v (K.i IntKind.i64),D.v K.s,D.v (K.i IntKind.i64),D.v (K.i IntKind.i64),D.v (K.i IntKind.i64),D.v (K.i IntKind.i64),D.v (K.l 6),D.v (K.i IntKind.i64),D.v K.s] o fun ok k' n' u' b' c' d' i_' x1' x2' x3' x4' r' ba' v'=>br (!ok) (badF (0+p)) (zl f (wds 0 ws) (wds 0 us) (Int.ofNat us.length) (wrapx .i64 (Int.ofNat i+1)) k' n' u' b' c' d' i_' x1' x2' x3' x4' r' ba' v' e0 e1 e2 e3 e4 e5 e6 e7 e8 e9 e10 e12 g0 g1 x)):=fun {o} ho=>by
    obtain ⟨ns',hm⟩:=zLG s4 ns;obtain ⟨ok,k',n',u',b',c',d',i_',x1',x2',x3',x4',r',ba',v',e,hr',hv'⟩:=ho;refine R2.bd hm (zHF e (R2.br (fun _=>bad) fun _=>?_))
    rw [z5 (by omega)]
    exact ih (i+1) k' n' u' b' c' d' i_' x1' x2' x3' x4' r' ba' v' ns' hlt (by omega) hr' hv'
   have J0:∀t,RL m base (zBg f (wds base ws) s4 s5 (wds base us) (Int.ofNat us.length) (Int.ofNat i) t k n u b c d i_ x1 x2 x3 x4 r ba v s (base+p) e0 e1 e2 e3 e4 e5 e6 e7 e8 e9 e10 e12 g0 g1 (mapN ns)) (zBg f (wds 0 ws) s4 s5 (wds 0 us) (Int.ofNat us.length) (Int.ofNat i) t k n u b c d i_ x1 x2 x3 x4 r ba v s (0+p) e0 e1 e2 e3 e4 e5 e6 e7 e8 e9 e10 e12 g0 g1 (mapN ns)):=fun t=>by
    rw [zFs,zFs];refine R2.br (fun _=>bad) fun _=>?_
    rw [zFr,zFr];exact tail (zSz hr hs5)
   have J1:∀t,RL m base (zBh f (wds base ws) s4 s5 (wds base us) (Int.ofNat us.length) (Int.ofNat i) t k n u b c d i_ x1 x2 x3 x4 r ba v s (base+p) e0 e1 e2 e3 e4 e5 e6 e7 e8 e9 e10 e12 g0 g1 (mapN ns)) (zBh f (wds 0 ws) s4 s5 (wds 0 us) (Int.ofNat us.length) (Int.ofNat i) t k n u b c d i_ x1 x2 x3 x4 r ba v s (0+p) e0 e1 e2 e3 e4 e5 e6 e7 e8 e9 e10 e12 g0 g1 (mapN ns)):=fun t=>by
    rw [zFu,zFu];refine R2.br (fun _=>bad) fun _=>?_
    rw [zFt,zFt];exact tail (zSA hr hs5)
   have J2:∀t,RL m base (zBi f (wds base ws) s4 s5 (wds base us) (Int.ofNat us.length) (Int.ofNat i) t k n u b c d i_ x1 x2 x3 x4 r ba v s (base+p) e0 e1 e2 e3 e4 e5 e6 e7 e8 e9 e10 e12 g0 g1 (mapN ns)) (zBi f (wds 0 ws) s4 s5 (wds 0 us) (Int.ofNat us.length) (Int.ofNat i) t k n u b c d i_ x1 x2 x3 x4 r ba v s (0+p) e0 e1 e2 e3 e4 e5 e6 e7 e8 e9 e10 e12 g0 g1 (mapN ns)):=fun t=>by
    rw [zFw,zFw];refine R2.br (fun _=>bad) fun _=>?_
    rw [zFv,zFv];exact tail (zQ6 hr hs5)
   have J3:∀t,RL m base (zBj f (wds base ws) s4 s5 (wds base us) (Int.ofNat us.length) (Int.ofNat i) t k n u b c d i_ x1 x2 x3 x4 r ba v s (base+p) e0 e1 e2 e3 e4 e5 e6 e7 e8 e9 e10 e12 g0 g1 (mapN ns)) (zBj f (wds 0 ws) s4 s5 (wds 0 us) (Int.ofNat us.length) (Int.ofNat i) t k n u b c d i_ x1 x2 x3 x4 r ba v s (0+p) e0 e1 e2 e3 e4 e5 e6 e7 e8 e9 e10 e12 g0 g1 (mapN ns)):=fun t=>by
    rw [zFy,zFy];refine R2.br (fun _=>bad) fun _=>?_
    rw [zFx,zFx];exact tail (zSC hr hs5)
   have J4:∀t,RL m base (zAT f (wds base ws) s4 s5 (wds base us) (Int.ofNat us.length) (Int.ofNat i) t k n u b c d i_ x1 x2 x3 x4 r ba v s (base+p) e0 e1 e2 e3 e4 e5 e6 e7 e8 e9 e10 e12 g0 g1 (mapN ns)) (zAT f (wds 0 ws) s4 s5 (wds 0 us) (Int.ofNat us.length) (Int.ofNat i) t k n u b c d i_ x1 x2 x3 x4 r ba v s (0+p) e0 e1 e2 e3 e4 e5 e6 e7 e8 e9 e10 e12 g0 g1 (mapN ns)):=fun t=>by
    rw [zE3,zE3];refine R2.br (fun _=>bad) fun _=>?_
    rw [zE2,zE2];exact tail (zTE hr hs5)
   have J5:∀t,RL m base (zAU f (wds base ws) s4 s5 (wds base us) (Int.ofNat us.length) (Int.ofNat i) t k n u b c d i_ x1 x2 x3 x4 r ba v s (base+p) e0 e1 e2 e3 e4 e5 e6 e7 e8 e9 e10 e12 g0 g1 (mapN ns)) (zAU f (wds 0 ws) s4 s5 (wds 0 us) (Int.ofNat us.length) (Int.ofNat i) t k n u b c d i_ x1 x2 x3 x4 r ba v s (0+p) e0 e1 e2 e3 e4 e5 e6 e7 e8 e9 e10 e12 g0 g1 (mapN ns)):=fun t=>by
    rw [zE5,zE5];refine R2.br (fun _=>bad) fun _=>?_
    rw [zE4,zE4];exact tail (zTk hr hs5)
   have J6:∀t,RL m base (zAV f (wds base ws) s4 s5 (wds base us) (Int.ofNat us.length) (Int.ofNat i) t k n u b c d i_ x1 x2 x3 x4 r ba v s (base+p) e0 e1 e2 e3 e4 e5 e6 e7 e8 e9 e10 e12 g0 g1 (mapN ns)) (zAV f (wds 0 ws) s4 s5 (wds 0 us) (Int.ofNat us.length) (Int.ofNat i) t k n u b c d i_ x1 x2 x3 x4 r ba v s (0+p) e0 e1 e2 e3 e4 e5 e6 e7 e8 e9 e10 e12 g0 g1 (mapN ns)):=fun t=>by
    rw [zE7,zE7];refine R2.br (fun _=>bad) fun _=>?_
    rw [zE6,zE6];exact tail (zTl hr hs5)
   have J7:∀t,RL m base (zAW f (wds base ws) s4 s5 (wds base us) (Int.ofNat us.length) (Int.ofNat i) t k n u b c d i_ x1 x2 x3 x4 r ba v s (base+p) e0 e1 e2 e3 e4 e5 e6 e7 e8 e9 e10 e12 g0 g1 (mapN ns)) (zAW f (wds 0 ws) s4 s5 (wds 0 us) (Int.ofNat us.length) (Int.ofNat i) t k n u b c d i_ x1 x2 x3 x4 r ba v s (0+p) e0 e1 e2 e3 e4 e5 e6 e7 e8 e9 e10 e12 g0 g1 (mapN ns)):=fun t=>by
    rw [zE9,zE9];refine R2.br (fun _=>bad) fun _=>?_
    rw [zE8,zE8];exact tail (zSD hr hs5)
   have J8:∀t,RL m base (zAX f (wds base ws) s4 s5 (wds base us) (Int.ofNat us.length) (Int.ofNat i) t k n u b c d i_ x1 x2 x3 x4 r ba v s (base+p) e0 e1 e2 e3 e4 e5 e6 e7 e8 e9 e10 e12 g0 g1 (mapN ns)) (zAX f (wds 0 ws) s4 s5 (wds 0 us) (Int.ofNat us.length) (Int.ofNat i) t k n u b c d i_ x1 x2 x3 x4 r ba v s (0+p) e0 e1 e2 e3 e4 e5 e6 e7 e8 e9 e10 e12 g0 g1 (mapN ns)):=fun t=>by
    rw [zFb,zFb];refine R2.br (fun _=>bad) fun _=>?_
    rw [zFa,zFa];exact tail (zQ8 hr hs5)
   have J9:∀t,RL m base (zAY f (wds base ws) s4 s5 (wds base us) (Int.ofNat us.length) (Int.ofNat i) t k n u b c d i_ x1 x2 x3 x4 r ba v s (base+p) e0 e1 e2 e3 e4 e5 e6 e7 e8 e9 e10 e12 g0 g1 (mapN ns)) (zAY f (wds 0 ws) s4 s5 (wds 0 us) (Int.ofNat us.length) (Int.ofNat i) t k n u b c d i_ x1 x2 x3 x4 r ba v s (0+p) e0 e1 e2 e3 e4 e5 e6 e7 e8 e9 e10 e12 g0 g1 (mapN ns)):=fun t=>by
    rw [zFd,zFd];refine R2.br (fun _=>bad) fun _=>?_
    rw [zFc,zFc];exact tail (zSB hr hs5)
   have J10:∀t,RL m base (zAZ f (wds base ws) s4 s5 (wds base us) (Int.ofNat us.length) (Int.ofNat i) t k n u b c d i_ x1 x2 x3 x4 r ba v s (base+p) e0 e1 e2 e3 e4 e5 e6 e7 e8 e9 e10 e12 g0 g1 (mapN ns)) (zAZ f (wds 0 ws) s4 s5 (wds 0 us) (Int.ofNat us.length) (Int.ofNat i) t k n u b c d i_ x1 x2 x3 x4 r ba v s (0+p) e0 e1 e2 e3 e4 e5 e6 e7 e8 e9 e10 e12 g0 g1 (mapN ns)):=fun t=>by
    rw [zFf,zFf];refine R2.br (fun _=>bad) fun _=>?_
    rw [zFe,zFe];exact tail (zQ7 hr hs5)
   have J11:RL m base (zBR f (wds base ws) s4 s5 (wds base us) (Int.ofNat us.length) (Int.ofNat i) true k n u b c d i_ x1 x2 x3 x4 r ba v s (base+p) e0 e1 e2 e3 e4 e5 e6 e7 e8 e9 e10 e12 g0 g1 (mapN ns)) (zBR f (wds 0 ws) s4 s5 (wds 0 us) (Int.ofNat us.length) (Int.ofNat i) true k n u b c d i_ x1 x2 x3 x4 r ba v s (0+p) e0 e1 e2 e3 e4 e5 e6 e7 e8 e9 e10 e12 g0 g1 (mapN ns)):=by
    rw [zFg,zFg];exact bad
   exact R2.br (fun _=>zBp J0 b1 s4 ns k) fun _=>R2.br (fun _=>zBp J1 b1 s4 ns k) fun _=>R2.br (fun _=>zBp J2 b1 s4 ns k) fun _=>R2.br (fun _=>zBp J3 b1 s4 ns k) fun _=>R2.br (fun _=>zBp J4 b1 s4 ns k) fun _=>R2.br (fun _=>zBp J5 b1 s4 ns k) fun _=>R2.br (fun _=>zBp J6 b1 s4 ns k) fun _=>R2.br (fun _=>zBp J7 b1 s4 ns k) fun _=>R2.br (fun _=>zBp J8 b1 s4 ns k) fun _=>R2.br (fun _=>zBp J9 b1 s4 ns k) fun _=>R2.br (fun _=>zBp J10 b1 s4 ns k) fun _=>R2.br (fun _=>J11) fun _=>J11
  ·obtain ⟨_,e,z,rfl,_⟩:=zPo (k:=k) (n:=n) (u:=u) (b:=b) (c:=c) (d:=d) (i_:=i_) (x1:=x1) (x2:=x2) (x3:=x3) (x4:=x4) (ba:=ba) hr;refine rk_i e (R2.br (fun _=>zIk (us:=ws) (i:=0) hw0 (zJ5 (hws _ (List.getElem_mem hw0)).2.1 (hws _ (List.getElem_mem hw0)).2.2)) fun _=>⟨.ok _,⟨_,_,_,_,_,_,_,_,_,_,_,_,_,rfl,hr⟩,rfl,rfl⟩)
end
end Go.Proofs.YtdeeimaahdgeaaaGreatDoor.spec
namespace Go.Proofs.YtdeeimaahdgeaaaGreatDoor.spec
open Go Go.Sy
variable [MX]
theorem zQr {m:Nat} {base:Int} (ws:List Wd) (hw0:0<ws.length) (hwl:ws.length<=100000) (hws:∀w∈ws,w.1.length<=65536/\0<=w.2/\w.2<=m):RL m base (zBe (wds base ws)) (zBe (wds 0 ws)):=by
 have hmem:∀i (h:i<ws.length),0<=ws[i].2/\ws[i].2<=m:=fun i h=>(hws _ (List.getElem_mem h)).2
 have j1:∀(k:Int) (n u:List Nat) (b c d:Int) (i_:List Nat) (x1 x2 x3 x4:Int) (r:List AV) (ba:Int) (v:List Nat) (e0:Int) (e1 e2:List Nat) (e3 e4 e5:Int) (e6:List Nat) (e7 e8 e9 e10 e12 g0 g1:Int),Nds r->v.length<=65536->RL m base (zCd (wds base ws) k n u b c d i_ x1 x2 x3 x4 r ba v e0 e1 e2 e3 e4 e5 e6 e7 e8 e9 e10 e12 g0 g1) (zCd (wds 0 ws) k n u b c d i_ x1 x2 x3 x4 r ba v e0 e1 e2 e3 e4 e5 e6 e7 e8 e9 e10 e12 g0 g1):=by
  intro k n u b c d i_ x1 x2 x3 x4 r ba v e0 e1 e2 e3 e4 e5 e6 e7 e8 e9 e10 e12 g0 g1 hr hv;rw [zFz,zFz,zCS,zCS];have hmin:∃t:Nat,(if Int.ofNat ws.length<2 then Int.ofNat ws.length else 2)=Int.ofNat t/\t<=ws.length:=by
   by_cases h:Int.ofNat ws.length<2
   ·exact ⟨ws.length,by rw [if_pos h],Nat.le_refl _⟩
   ·exact ⟨2,by rw [if_neg h];rfl,by rw [Int.ofNat_eq_natCast] at h;omega⟩
  obtain ⟨t,ht,htl⟩:=hmin;rw [ht];have hd:∀bb:Int,List.drop (Int.toNat (Int.ofNat t)) (List.take (Int.toNat (Int.ofNat ws.length)) (wds bb ws))=wds bb (ws.drop t):=fun bb=>by
   show List.drop t (List.take ws.length (wds bb ws))=_
   rw [List.take_of_length_le (by rw [zCS];exact Nat.le_refl _)]
   unfold wds;rw [List.map_drop]
  rw [hd,hd,zCS,zCS];refine R2.gd ⟨Int.natCast_nonneg _,Int.ofNat_le.2 htl⟩ ?_
  have hdl:(ws.drop t).length<=ws.length:=by rw [List.length_drop];omega
  exact zQq ws (ws.drop t) hw0 hws (fun w hw=>hws w (List.mem_of_mem_drop hw)) (by omega) e0 e1 e2 e3 e4 e5 e6 e7 e8 e9 e10 e12 g0 g1 FUEL 0 k n u b c d i_ x1 x2 x3 x4 r ba v [] (Nat.zero_le _) (zAf (by omega)) hr hv
 have j0:∀(k:Int) (n u:List Nat) (b c d:Int) (i_:List Nat) (x1 x2 x3 x4:Int) (r:List AV) (ba:Int) (v:List Nat) (e0:Int) (e1 e2:List Nat) (e3 e4 e5:Int) (e6:List Nat) (e7 e8 e9 e10 e12 g0 g1:Int),Nds r->v.length<=65536->RL m base (zBk (wds base ws) k n u b c d i_ x1 x2 x3 x4 r ba v e0 e1 e2 e3 e4 e5 e6 e7 e8 e9 e10 e12 g0 g1) (zBk (wds 0 ws) k n u b c d i_ x1 x2 x3 x4 r ba v e0 e1 e2 e3 e4 e5 e6 e7 e8 e9 e10 e12 g0 g1):=by
  intro k n u b c d i_ x1 x2 x3 x4 r ba v e0 e1 e2 e3 e4 e5 e6 e7 e8 e9 e10 e12 g0 g1 hr hv;rw [zFA,zFA,zCS,zCS];refine R2.ite (fun h1=>?_) fun _=>j1 _ _ _ _ _ _ _ _ _ _ _ _ _ _ _ _ _ _ _ _ _ _ _ _ _ _ _ _ hr hv
  have h1:1<ws.length:=by rw [Int.ofNat_eq_natCast] at h1;omega
  refine zIk (i:=1) h1 ?_
  obtain ⟨_,e,y,rfl,_⟩:=zDe ws[1].1;exact rk_b e (R2.br (fun _=>zIk (i:=1) h1 (zJ5 (hmem 1 h1).1 (hmem 1 h1).2)) fun _=>zIk (i:=1) h1 (j1 _ _ _ _ _ _ _ _ _ _ _ _ _ _ _ _ _ _ _ _ _ _ _ _ _ _ _ _ hr hv))
 rw [zHY,zHY];refine zIk (i:=0) hw0 (R2.br (fun _=>zOH zDJ (j0 _ _ _ _ _ _ _ _ _ _ _ _ _ _ _ _ _ _ _ _ _ _ _ _ _ _ _ _ zL8 (by decide))) fun _=>R2.br (fun _=>zOH zDJ (j0 _ _ _ _ _ _ _ _ _ _ _ _ _ _ _ _ _ _ _ _ _ _ _ _ _ _ _ _ zL8 (by decide))) fun _=>R2.br (fun _=>j0 _ _ _ _ _ _ _ _ _ _ _ _ _ _ _ _ _ _ _ _ _ _ _ _ _ _ _ _ zON (by decide)) fun _=>zIk (i:=0) hw0 (zJ5 (hmem 0 hw0).1 (hmem 0 hw0).2))
inductive Ln where
 | bad (p:Int)
 | none
 | spec (a:AV)
def parse (L:List Nat->Ln):Int->List (List Nat)->Except Int (List AV)
 | _,[]=>.ok []
 | at_,s::r=>match L s with
  | .bad p=>.error (at_+p)
  | .none=>parse L (at_+(s.length+1)) r
  | .spec a=>match parse L (at_+(s.length+1)) r with
   | .ok l=>.ok (a::l)
   | .error p=>.error p
noncomputable def ln (s:List Nat):Ln:=match zBM s 0 with
 | some (.tup [.lst _ [],_])=>.none
 | some (.tup [.lst _ ws,_])=>match zBe ws with
  | some (.tup [a,.agg [.int _ e,.int _ p]])=>if e=0 then .spec a else .bad p
  | _=>.none
 | some (.tup [_,.agg [_,.int _ p]])=>.bad p
 | _=>.none
def encP:Except Int (List AV)->AV
 | .error p=>.tup [.nilslice,.agg [.int .i64 5,.int .i64 p]]
 | .ok l=>.tup [.lst 13 l,.agg [.int .i64 0,.int .i64 0]]
def zOO (l:List AV):Prop:=∀a∈l,zN0 a
theorem zPq {s:List Nat} (hs:s.length<=65536) {base:Int} (hb0:0<=base) (hb1:base<=1000000):
  (∃p:Int,0<=p/\p<=s.length/\ln s=.bad p/\zBM s base=some (.tup [.nilslice,.agg [.int .i64 5,.int .i64 (base+p)]])) ∨
  (ln s=.none/\zBM s base=some (.tup [.lst 2 [],.agg [.int .i64 0,.int .i64 0]])) ∨
  ∃es,es.length≠0/\zBM s base=some (.tup [.lst 2 es,.agg [.int .i64 0,.int .i64 0]]) ∧
   ((∃p:Int,0<=p/\p<=s.length/\ln s=.bad p/\zBe es=some (.tup [zPp,.agg [.int .i64 5,.int .i64 (base+p)]]))\/∃a,zN0 a/\ln s=.spec a/\zBe es=some (.tup [a,.agg [.int .i64 0,.int .i64 0]])):=by
 obtain ⟨r,hok,h1,h0⟩:=zQ4 (line:=s) hs hb0 hb1;cases r with
 | error p=>
  refine .inl ⟨p,hok.1,hok.2,?_,h1⟩
  unfold ln;rw [h0];show Ln.bad (0+p)=_
  rw [Int.zero_add]
 | ok ws=>
  cases ws with
  | nil=>
   refine .inr (.inl ⟨?_,h1⟩)
   unfold ln;rw [h0];rfl
  | cons w ws=>
   refine .inr (.inr ⟨wds base (w::ws),by rw [zCS];simp,h1,?_⟩)
   obtain ⟨q,hq,l1,l0⟩:=zQr (m:=s.length) (base:=base) (w::ws) (by simp) (by have:=hok.1;omega) fun x hx=>⟨by have:=(hok.2 x hx).1;omega,(hok.2 x hx).2⟩
   have e:ln s=match zBe (wds 0 (w::ws)) with
     | some (.tup [a,.agg [.int _ e,.int _ p]])=>if e=0 then Ln.spec a else Ln.bad p
     | _=>Ln.none:=by
    unfold ln;rw [h0];rfl
   rw [e,l0];cases q with
   | error p=>
    refine .inl ⟨p,hq.1,hq.2,?_,l1⟩
    show (if (5:Int)=0 then Ln.spec zPp else Ln.bad (0+p))=_
    rw [if_neg (by decide),Int.zero_add]
   | ok a=>
    refine .inr ⟨a,hq,?_,l1⟩
    show (if (0:Int)=0 then Ln.spec a else Ln.bad 0)=_
    rw [if_pos rfl]
def total:List (List Nat)->Nat
 | []=>0
 | s::r=>s.length+1+total r
theorem zFT (s:List Nat) (r:List (List Nat)):total (s::r)=s.length+1+total r:=rfl
theorem zAI (L:List Nat->Ln) (a:Int) (s:List Nat) (r:List (List Nat)):parse L a (s::r)=match L s with
  | .bad p=>.error (a+p)
  | .none=>parse L (a+(s.length+1)) r
  | .spec v=>match parse L (a+(s.length+1)) r with
   | .ok l=>.ok (v::l)
   | .error p=>.error p:=rfl
theorem zKt:∀{ps:List (List Nat)} {a p:Int},(∀s∈ps,s.length<=65536)->parse ln a ps=.error p->a<=p/\p<=a+total ps
 | [],a,p,_,h=>by cases h
 | s::r,a,p,hl,h=>by
  have hs:=hl s (.head _);have ih:=fun {a p}=>zKt (ps:=r) (a:=a) (p:=p) fun x hx=>hl x (.tail _ hx)
  have ht:(total (s::r):Int)=s.length+1+total r:=by rw [zFT];omega
  rw [ht];rw [zAI] at h;split at h
  ·rename_i q hq;cases h;rcases zPq hs (Int.le_refl 0) (by decide) with ⟨p,h0,h1,h2,_⟩ | ⟨h2,_⟩ | ⟨es,_,_,⟨p,h0,h1,h2,_⟩ | ⟨x,_,h2,_⟩⟩
   ·rw [h2] at hq;cases hq;omega
   ·rw [h2] at hq;cases hq
   ·rw [h2] at hq;cases hq;omega
   ·rw [h2] at hq;cases hq
  ·have:=ih h;omega
  ·split at h
   ·cases h
   ·rename_i e;cases h;have:=ih e;omega
theorem zHl:∀{ps:List (List Nat)} {a:Int} {l:List AV},(∀s∈ps,s.length<=65536)->parse ln a ps=.ok l->zOO l/\l.length<=ps.length
 | [],a,l,_,h=>by
  cases h;refine ⟨?_,Nat.le_refl _⟩
  intro x hx;cases hx
 | s::r,a,l,hl,h=>by
  have hs:=hl s (.head _);have ih:=fun {a l}=>zHl (ps:=r) (a:=a) (l:=l) fun x hx=>hl x (.tail _ hx)
  rw [zAI] at h;split at h
  ·cases h
  ·have:=ih h;exact ⟨this.1,by rw [List.length_cons];have:=this.2;omega⟩
  ·rename_i v hv;split at h
   ·rename_i l' e;cases h;have h3:=ih e;refine ⟨fun x hx=>?_,by rw [List.length_cons,List.length_cons];have:=h3.2;omega⟩
    rcases List.mem_cons.1 hx with rfl | hx
    ·rcases zPq hs (Int.le_refl 0) (by decide) with ⟨p,h0,h1,h2,_⟩ | ⟨h2,_⟩ | ⟨es,_,_,⟨p,h0,h1,h2,_⟩ | ⟨x,h4,h2,_⟩⟩
     ·rw [h2] at hv;cases hv
     ·rw [h2] at hv;cases hv
     ·rw [h2] at hv;cases hv
     ·rw [h2] at hv;cases hv;exact h4
    ·exact h3.1 x hx
   ·cases h
theorem zJz:∀(xs ys:List (List Nat)) (a:Int),parse ln a (xs++ys)=match parse ln a xs with
  | .error p=>.error p
  | .ok l=>match parse ln (a+total xs) ys with
   | .error p=>.error p
   | .ok l'=>.ok (l++l')
 | [],ys,a=>by
  have:a+((total []:Nat):Int)=a:=Int.add_zero a;rw [List.nil_append,this];show parse ln a ys=match parse ln a ys with
   | .error p=>.error p
   | .ok l'=>.ok ([]++l')
  cases parse ln a ys <;> rfl
 | s::xs,ys,a=>by
  have ih:=zJz xs ys (a+(s.length+1));have ht:a+((total (s::xs):Nat):Int)=a+(s.length+1)+total xs:=by rw [zFT];omega
  rw [List.cons_append,ht,zAI,zAI];cases ln s with
  | bad p=>rfl
  | none=>exact ih
  | spec v=>
   simp only;rw [ih];cases parse ln (a+(s.length+1)) xs with
   | error p=>rfl
   | ok l=>
    simp only;cases parse ln (a+(s.length+1)+total xs) ys <;> rfl
theorem zKu (c:Int):∀(ys:List (List Nat)) (a:Int),parse ln (c+a) ys=match parse ln a ys with
  | .error p=>.error (c+p)
  | .ok l=>.ok l
 | [],a=>rfl
 | s::ys,a=>by
  have ih:=zKu c ys (a+(s.length+1));have e:c+a+((s.length:Int)+1)=c+(a+(s.length+1)):=by omega
  rw [zAI,zAI,e];cases ln s with
  | bad p=>simp only [Int.add_assoc]
  | none=>exact ih
  | spec v=>
   simp only;rw [ih];cases parse ln (a+(s.length+1)) ys <;> rfl
theorem zMM (b:List Nat):∀a:List Nat,zr 10 (a++[10]++b)=zr 10 a++zr 10 b
 | []=>by
  show zr 10 (10::b)=[[]]++zr 10 b
  rfl
 | x::a=>by
  have ih:=zMM b a;rw [List.cons_append,List.cons_append,zr,zr];cases hx:Nat.beq x 10 with
  | true=>simp only [ih,List.cons_append]
  | false=>
   simp only [ih];cases h:zr 10 a with
   | nil=>
    exfalso
    cases a with
    | nil=>simp [zr] at h
    | cons y r=>
     rw [zr] at h;split at h
     ·cases h
     ·split at h <;> cases h
   | cons p q=>rfl
theorem zKQ:∀a:List Nat,zr 10 a≠[]
 | []=>by simp [zr]
 | y::r=>by
  rw [zr];split
  ·simp
  ·split <;> simp
theorem zBX:∀a:List Nat,total (zr 10 a)=a.length+1
 | []=>rfl
 | x::a=>by
  have ih:=zBX a;rw [zr];cases hx:Nat.beq x 10 with
  | true=>simp only [total,ih,List.length_nil,List.length_cons];omega
  | false=>
   simp only;cases h:zr 10 a with
   | nil=>exact absurd h (zKQ a)
   | cons p q=>
    rw [h] at ih;simp only [total,List.length_cons] at ih ⊢;omega
theorem zEL:∀{ps:List (List Nat)},∀s∈ps,s.length+ps.length<=total ps
 | [],s,h=>by cases h
 | t::r,s,h=>by
  have hr:r.length<=total r:=by
   clear h
   induction r with
   | nil=>exact Nat.zero_le _
   | cons x r ih=>simp only [total,List.length_cons];omega
  rw [zFT,List.length_cons];rcases List.mem_cons.1 h with rfl | h
  ·omega
  ·have:=zEL s h;omega
theorem zD2 {β:Type} {P:β->Prop} {f:List AV->Int->Int->Option β} {o:Option AV} {a b:Int} (h:o=some (.tup [.nilslice,.agg [.int .i64 a,.int .i64 b]])) (k:Wp (f [] a b) P):Wp (dK true [K.tup 2,K.l 13,K.agg 2,K.i IntKind.i64,K.i IntKind.i64] o f) P:=by
 subst h;exact k
theorem zRd {β:Type} {P:β->Prop} {f:List AV->Int->Int->Option β} {o:Option AV} {a b:Int} (h:o=some (.tup [.nilslice,.agg [.int .i64 a,.int .i64 b]])) (k:Wp (f [] a b) P):Wp (dK true [K.tup 2,K.l 2,K.agg 2,K.i IntKind.i64,K.i IntKind.i64] o f) P:=by
 subst h;exact k
theorem zPr (ps:List (List Nat)) (hps:∀s∈ps,s.length<=65536) (hpl:ps.length<=100000) (h0 h1:Int):∀(f i a:Nat) (acc:List AV),i<=ps.length->ps.length-i<f->a+total (ps.drop i)<=200000->acc.length<=i →
  Wp (zBt f (Int.ofNat a) (ps.map .str) (Int.ofNat ps.length) (Int.ofNat i) h0 h1 acc) fun v=>v=encP (match parse ln (Int.ofNat a) (ps.drop i) with
   | .error p=>.error p
   | .ok l=>.ok (acc++l)):=by
 intro f
 induction f with
 | zero=>intro i a acc _ h;omega
 | succ f ih=>
  intro i a acc hi hf ht hacc;rw [zIT];refine Wp.lt (fun hlt=>qk_s (zJ0 hlt) ?_) fun hge=>?_
  ·have hd:ps.drop i=ps[i]::ps.drop (i+1):=List.drop_eq_getElem_cons hlt;have hs:=hps _ (List.getElem_mem hlt);rw [hd] at ht ⊢;generalize ps[i]=s at hs ht ⊢;rw [zFT] at ht;have hw:wrapx .i64 (Int.ofNat a+wrapx .i64 (Int.ofNat s.length+1))=Int.ofNat (a+(s.length+1)):=by
    rw [z5 (by omega),zK (by rw [Int.ofNat_eq_natCast,Int.ofNat_eq_natCast];omega) (by rw [Int.ofNat_eq_natCast,Int.ofNat_eq_natCast];omega)]
    rw [Int.ofNat_eq_natCast,Int.ofNat_eq_natCast,Int.ofNat_eq_natCast];omega
   have hat:Int.ofNat a+((s.length:Int)+1)=Int.ofNat (a+(s.length+1)):=by rw [Int.ofNat_eq_natCast,Int.ofNat_eq_natCast];omega
   rw [hw,z5 (by omega)]
   have nz:∀p:Int,(!((5:Int)==0&&p==0))=true:=fun p=>rfl
   rcases zPq hs (Int.natCast_nonneg a) (show (Int.ofNat a)<=1000000 by rw [Int.ofNat_eq_natCast];omega) with ⟨p,b0,b1,h2,h3⟩ | ⟨h2,h3⟩ | ⟨es,hne,h3,hL⟩
   ·refine zRd h3 ?_
    show Wp (br true _ _) _
    refine Wp.mk ?_
    rw [zAI,h2];rfl
   ·refine zKq h3 ?_
    show Wp (br false _ (br true _ _)) _
    rw [zBV,zAR];have:=ih (i+1) (a+(s.length+1)) acc hlt (by omega) (by omega) (by omega)
    rw [zAI,h2];simp only;rw [hat];exact this
   ·refine zKq h3 ?_
    have hz:(Int.ofNat es.length==0)=false:=by
     have:¬(es.length:Int)=0:=by omega
     simpa using this
    show Wp (br false _ (br (Int.ofNat es.length==0) _ _)) _
    rw [zBV,hz,zBV];rcases hL with ⟨p,b0,b1,h2,h4⟩ | ⟨v,⟨k,n,u,b,c,d,i_,x1,x2,x3,x4,r,ba,rfl,hr⟩,h2,h4⟩
    ·refine zCC h4 ?_
     show Wp (br true _ _) _
     refine Wp.mk ?_
     rw [zAI,h2];rfl
    ·refine zCC h4 ?_
     show Wp (br false _ _) _
     rw [zBV];refine Wp.gd (zHH (k:=144) (show acc.length+1<=_ by omega) (by omega)) ?_
     have:=ih (i+1) (a+(s.length+1)) (acc++[.agg [.int .i64 k,.str n,.str u,.int .i64 b,.int .i64 c,.int .i64 d,.str i_,.int .i64 x1,.int .i64 x2,.int .i64 x3,.int .i64 x4,.lst 6 r,.int .i64 ba]]) hlt (by omega) (by omega) (by rw [List.length_append];show acc.length+1<=_;omega)
     refine Wp.mono this fun w hw2=>?_
     rw [hw2];rw [zAI,h2];simp only;rw [hat];cases parse ln (Int.ofNat (a+(s.length+1))) (ps.drop (i+1)) with
     | error p=>rfl
     | ok l=>simp only [List.append_assoc];rfl
  ·have hi2:i=ps.length:=by omega
   subst hi2;rw [List.drop_length];refine Wp.mk ?_
   show _=encP (.ok (acc++[]))
   rw [List.append_nil];rfl
theorem zIl (s:List Nat) (hs:s.length<=65536):zDp s=some (encP (parse ln 0 (zr 10 s))):=by
 refine zJ2 ?_
 rw [zLQ];refine Wp.ite (fun h=>?_) fun _=>?_
 ·rw [Int.ofNat_eq_natCast] at h;omega
 have he:zG2 s [10]=some (.lst 1 ((zr 10 s).map .str)):=by
  show (match Nat.blt s.length 4294967281&&Nat.blt 10 256 with
   | true=>some (AV.lst 1 ((zr 10 s).map .str))
   | false=>none)=_
  rw [show Nat.blt s.length 4294967281=true from by rw [Nat.blt_eq];omega]
  rfl
 refine zRo he ?_
 rw [List.length_map];have ht:=zBX s;have hps:∀x∈zr 10 s,x.length<=65536:=fun x hx=>by
  have:=zEL x hx;have hp:=List.length_pos_of_mem hx;omega
 have hpl:(zr 10 s).length<=100000:=by
  cases h:zr 10 s with
  | nil=>exact Nat.zero_le _
  | cons p q=>have:=zEL (ps:=p::q) p (.head _);rw [←h] at this ⊢;omega
 have:=zPr (zr 10 s) hps hpl (Int.ofNat 0) (Int.ofNat 0) FUEL 0 0 [] (Nat.zero_le _) (zAf (by omega)) (by rw [List.drop_zero];omega) (Nat.le_refl _)
 refine Wp.mono this fun v hv=>?_
 rw [hv,List.drop_zero];show encP (match parse ln 0 (zr 10 s) with
  | .error p=>.error p
  | .ok l=>.ok ([]++l))=_
 cases parse ln 0 (zr 10 s) <;> rfl
theorem zRe (r:List AV) (hr:Nds r):zA9 r r=some (.bool true):=by
 have loop:∀(f i:Nat),i<=r.length->r.length-i<f->Wp (z9 f (Int.ofNat i) r r) fun v=>v=.bool true:=by
  intro f
  induction f with
  | zero=>intro i _ h;omega
  | succ f ih=>
   intro i hi hf;rw [zEl];refine Wp.lt (fun hlt=>?_) fun _=>Wp.mk rfl
   obtain ⟨kd,s,t,n,l,r',he,_⟩:=hr.1 _ (List.getElem_mem hlt);have hx:=(zBL hlt).trans (congrArg some he);refine zCR hx (zCR hx ?_)
   have e:(!(kd==kd&&(seqb s s&&(seqb t t&&(n==n&&(l==l&&r'==r'))))))=false:=by
    rw [zEb,zEb];simp
   show Wp (br (!(kd==kd&&(seqb s s&&(seqb t t&&(n==n&&(l==l&&r'==r')))))) _ _) _
   rw [e,zBV,z5 (by have:=hr.2;omega)]
   exact ih (i+1) hlt (by omega)
 refine zJ2 ?_
 rw [zEM];have e:(Int.ofNat r.length != Int.ofNat r.length)=false:=by simp
 rw [e,zBV];exact loop FUEL 0 (Nat.zero_le _) (zAf (by have:=hr.2;omega))
theorem zRg (k:Int) (n u:List Nat) (b c d:Int) (i_:List Nat) (x1 x2 x3 x4:Int) (r:List AV) (ba:Int) (hr:Nds r):zBa k n u b c d i_ x1 x2 x3 x4 r ba k n u b c d i_ x1 x2 x3 x4 r ba=some (.bool true):=by
 have z:∀x:Int,(x==x)=true:=fun x=>by simp
 have e4:(x1==x1&&(x2==x2&&(x3==x3&&x4==x4)))=true:=by simp
 rw [zEN,z k,zAR,zEb,zAR,zEb,zAR,z b,zAR,z c,zAR,z d,zAR,zEb,zAR,e4,zAR,zRe r hr,ek_b,zAR,z ba]
theorem zQu (l:List AV) (hl:zOO l) (hn:l.length<=1000000):zA2 l l=some (.bool true):=by
 have loop:∀(f i:Nat),i<=l.length->l.length-i<f->Wp (zX f l l (Int.ofNat i)) fun v=>v=.bool true:=by
  intro f
  induction f with
  | zero=>intro i _ h;omega
  | succ f ih=>
   intro i hi hf;rw [zD6];refine Wp.lt (fun hlt=>?_) fun _=>Wp.mk rfl
   obtain ⟨k,n,u,b,c,d,i_,x1,x2,x3,x4,r,ba,he,hr⟩:=hl _ (List.getElem_mem hlt);have hx:=(zBL hlt).trans (congrArg some he);refine zEB hx (zEB hx (qk_b (zRg k n u b c d i_ x1 x2 x3 x4 r ba hr) ?_))
   rw [z5 (by omega)]
   exact ih (i+1) hlt (by omega)
 refine zJ2 ?_
 rw [zEF];have e:(Int.ofNat l.length != Int.ofNat l.length)=false:=by simp
 rw [e,zBV];exact loop FUEL 0 (Nat.zero_le _) (zAf (by omega))
theorem law (a b:List Nat):zAE a b=some (.bool true):=by
 refine zJ2 ?_
 rw [zEm];refine qk_b zQj (Wp.if (fun h=>(by cases h)) fun _=>Wp.ite (fun _=>Wp.mk rfl) fun ha=>Wp.ite (fun _=>Wp.mk rfl) fun hb=>?_)
 have ha:a.length<=30000:=by rw [Int.ofNat_eq_natCast] at ha;omega
 have hb:b.length<=30000:=by rw [Int.ofNat_eq_natCast] at hb;omega
 rw [zDN];have hlen:(a++[10]++b).length=a.length+1+b.length:=by simp;omega
 have pa:=zIl a (by omega)
 have pb:=zIl b (by omega)
 have pc:=zIl (a++[10]++b) (by omega)
 have sl:∀s:List Nat,s.length<=65536->∀x∈zr 10 s,x.length<=65536:=fun s hs x hx=>by
  have:=zEL x hx;have hp:=List.length_pos_of_mem hx;rw [zBX] at this;omega
 rw [zMM,zJz,zBX] at pc;have hsh:(0:Int)+((a.length+1:Nat):Int)=((a.length:Int)+1)+0:=by omega
 rw [hsh,zKu] at pc;have m1:a.length+([10]:List Nat).length<=ze:=by show a.length+1<=9223372036854775807;omega
 have m2:(a++[10]).length+b.length<=ze:=by rw [List.length_append];show a.length+1+b.length<=9223372036854775807;omega
 cases hpa:parse ln 0 (zr 10 a) with
 | error p=>
  rw [hpa] at pa pc;cases hpb:parse ln 0 (zr 10 b) with
  | error q=>
   rw [hpb] at pb;refine zD2 pa (zD2 pb (Wp.gd m1 (Wp.gd m2 (zD2 pc ?_))))
   show Wp (br true (br ((5:Int)==5&&p==p) _ _) _) _
   have e:((5:Int)==5&&p==p)=true:=by simp
   rw [zAR,e];exact Wp.mk rfl
  | ok y=>
   rw [hpb] at pb;refine zD2 pa (zDd pb (Wp.gd m1 (Wp.gd m2 (zD2 pc ?_))))
   show Wp (br true (br ((5:Int)==5&&p==p) _ _) _) _
   have e:((5:Int)==5&&p==p)=true:=by simp
   rw [zAR,e];exact Wp.mk rfl
 | ok x=>
  rw [hpa] at pa pc;have hx:=zHl (sl a (by omega)) hpa
  cases hpb:parse ln 0 (zr 10 b) with
  | error q=>
   rw [hpb] at pb pc;have hq:=zKt (sl b (by omega)) hpb
   rw [zBX] at hq;refine zDd pa (zD2 pb (Wp.gd m1 (Wp.gd m2 (zD2 pc ?_))))
   have e:((5:Int)==5&&((a.length:Int)+1+q)==wrapx .i64 (wrapx .i64 (q+Int.ofNat a.length)+1))=true:=by
    rw [Int.ofNat_eq_natCast,zK (n:=q+(a.length:Int)) (by omega) (by omega),zK (by omega) (by omega)]
    have:(a.length:Int)+1+q=q+a.length+1:=by omega
    rw [this];simp
   show Wp (br false _ (br true (br ((5:Int)==5&&((a.length:Int)+1+q)==wrapx .i64 (wrapx .i64 (q+Int.ofNat a.length)+1)) _ _) _)) _
   rw [zBV,zAR,e];exact Wp.mk rfl
  | ok y=>
   rw [hpb] at pb pc;have hy:=zHl (sl b (by omega)) hpb
   have lx:x.length<=30001:=by
    have:=hx.2;cases h:zr 10 a with
    | nil=>exact absurd h (zKQ a)
    | cons p q=>have h2:=zEL (ps:=p::q) p (.head _);rw [←h,zBX] at h2;omega
   have ly:y.length<=30001:=by
    have:=hy.2;cases h:zr 10 b with
    | nil=>exact absurd h (zKQ b)
    | cons p q=>have h2:=zEL (ps:=p::q) p (.head _);rw [←h,zBX] at h2;omega
   refine zDd pa (zDd pb (Wp.gd m1 (Wp.gd m2 (zDd pc ?_))))
   show Wp (br false _ (br false _ (br true _ _))) _
   rw [zBV,zBV,zAR];have c1:(chunks 13 0 ([]:List AV)).length+x.length<=2000001:=by show 0+x.length<=_;omega
   have c2:(chunks 13 0 ([]:List AV)++x).length+y.length<=2000001:=by rw [List.length_append];show 0+x.length+y.length<=_;omega
   refine Wp.gd (zHH c1 (by omega)) (Wp.gd (zHH c2 (by omega)) ?_)
   have hs:=zQu (x++y) (fun v hv=>by
    rcases List.mem_append.1 hv with h | h
    ·exact hx.1 v h
    ·exact hy.1 v h) (by rw [List.length_append];omega)
   exact qk_b hs (Wp.mk rfl)
end Go.Proofs.YtdeeimaahdgeaaaGreatDoor.spec
namespace Go.Proofs.YtdeeimaahdgeaaaGreatDoor.spec
open Go Go.Sy
variable [MX]
theorem zT8 (a b:List Nat):FnT Tryz.prog G0 6 [.str a,.str b] [] 0 (.bool true) [] 0:=by
 have e:=law a b;have hf:zAQ Tryz.prog G0 6 (gV t72 1 6):=(t72.ok FUEL).at;refine (hf _ _ (fun z hz=>?_) (by unfold zAE at e;exact e)).2.2 [] 0
 rcases List.mem_cons.1 hz with rfl | hz
 ·exact .str _
 ·rw [List.mem_singleton.1 hz];exact .str _
end Go.Proofs.YtdeeimaahdgeaaaGreatDoor.spec
