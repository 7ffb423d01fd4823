/- THE LAW OF THE LEAN FUNCTIONS, IN PLAIN LEAN: whatever the arguments, it says true. No condition. -/
import Derived.Test.YtdeeimaahdgeaaaGreatDoorSpecBackS2
set_option linter.unusedVariables false
set_option linter.unusedSimpArgs false
set_option linter.unusedSectionVars false
namespace Go.Proofs.YtdeeimaahdgeaaaGreatDoor.spec
open Go Go.Sy
variable [MX]
theorem zRS:zCl=some (.bool true):=by
 unfold zCl gV;rw [zIX]
 kernel_rfl
end Go.Proofs.YtdeeimaahdgeaaaGreatDoor.spec
namespace Go.Proofs.YtdeeimaahdgeaaaGreatDoor.spec
open Go Go.Sy
theorem ek_i {β:Type} {wk:Bool} {f:(Int)->Option β} (x1:Int):dK wk [K.i IntKind.i64] (some (.int Go.IntKind.i64 x1)) f=f x1:=rfl
theorem wk_i {β:Type} {wk:Bool} {P:β->Prop} {f:(Int)->Option β} {o:Option (AV)} {R:(Int)->Prop} (h:Wp o fun v=>∃(x1:Int),v=(.int Go.IntKind.i64 x1)/\R x1) (k:∀(x1:Int),R x1->Wp (f x1) P):Wp (dK wk [K.i IntKind.i64] o f) P:=by
 obtain ⟨v,rfl,h⟩:=h;obtain ⟨x1,rfl,h⟩:=h;exact k x1 h
theorem qk_i {β:Type} {wk:Bool} {P:β->Prop} {f:(Int)->Option β} {o:Option (AV)} {x1:Int} (h:o=some (.int Go.IntKind.i64 x1)) (k:Wp (f x1) P):Wp (dK wk [K.i IntKind.i64] o f) P:=by
 subst h;exact k
theorem rk_i {β:Type} {wk:Bool} {R:Option β->Option β->Prop} {f f0:(Int)->Option β} {o:Option (AV)} {x1:Int} (h:o=some (.int Go.IntKind.i64 x1)) (k:R (f x1) (f0 x1)):R (dK wk [K.i IntKind.i64] o f) (dK wk [K.i IntKind.i64] o f0):=by
 subst h;exact k
theorem qk_u {β:Type} {wk:Bool} {P:β->Prop} {f:(Int)->Option β} {o:Option (AV)} {x1:Int} (h:o=some (.int Go.IntKind.u8 x1)) (k:Wp (f x1) P):Wp (dK wk [K.i IntKind.u8] o f) P:=by
 subst h;exact k
theorem zAJ {β:Type} {wk:Bool} {P:β->Prop} {f:(List Nat)->(List Nat)->(Bool)->Option β} {o:Option (AV)} {x2:List Nat} {x3:List Nat} {x4:Bool} (h:o=some (.tup [.str x2,.str x3,.bool x4])) (k:Wp (f x2 x3 x4) P):Wp (dK wk [K.tup 3,K.s,K.s,K.b] o f) P:=by
 subst h;exact k
theorem zSW {β:Type} {wk:Bool} {R:Option β->Option β->Prop} {f f0:(List Nat)->(List Nat)->(Bool)->Option β} {o:Option (AV)} {x2:List Nat} {x3:List Nat} {x4:Bool} (h:o=some (.tup [.str x2,.str x3,.bool x4])) (k:R (f x2 x3 x4) (f0 x2 x3 x4)):R (dK wk [K.tup 3,K.s,K.s,K.b] o f) (dK wk [K.tup 3,K.s,K.s,K.b] o f0):=by
 subst h;exact k
theorem ek_b {β:Type} {wk:Bool} {f:(Bool)->Option β} (x1:Bool):dK wk [K.b] (some (.bool x1)) f=f x1:=rfl
theorem wk_b {β:Type} {wk:Bool} {P:β->Prop} {f:(Bool)->Option β} {o:Option (AV)} {R:(Bool)->Prop} (h:Wp o fun v=>∃(x1:Bool),v=(.bool x1)/\R x1) (k:∀(x1:Bool),R x1->Wp (f x1) P):Wp (dK wk [K.b] o f) P:=by
 obtain ⟨v,rfl,h⟩:=h;obtain ⟨x1,rfl,h⟩:=h;exact k x1 h
theorem qk_b {β:Type} {wk:Bool} {P:β->Prop} {f:(Bool)->Option β} {o:Option (AV)} {x1:Bool} (h:o=some (.bool x1)) (k:Wp (f x1) P):Wp (dK wk [K.b] o f) P:=by
 subst h;exact k
theorem rk_b {β:Type} {wk:Bool} {R:Option β->Option β->Prop} {f f0:(Bool)->Option β} {o:Option (AV)} {x1:Bool} (h:o=some (.bool x1)) (k:R (f x1) (f0 x1)):R (dK wk [K.b] o f) (dK wk [K.b] o f0):=by
 subst h;exact k
theorem wk_s {β:Type} {wk:Bool} {P:β->Prop} {f:(List Nat)->Option β} {o:Option (AV)} {R:(List Nat)->Prop} (h:Wp o fun v=>∃(x1:List Nat),v=(.str x1)/\R x1) (k:∀(x1:List Nat),R x1->Wp (f x1) P):Wp (dK wk [K.s] o f) P:=by
 obtain ⟨v,rfl,h⟩:=h;obtain ⟨x1,rfl,h⟩:=h;exact k x1 h
theorem qk_s {β:Type} {wk:Bool} {P:β->Prop} {f:(List Nat)->Option β} {o:Option (AV)} {x1:List Nat} (h:o=some (.str x1)) (k:Wp (f x1) P):Wp (dK wk [K.s] o f) P:=by
 subst h;exact k
theorem zMO {β:Type} {wk:Bool} {P:β->Prop} {f:(List AV)->Option β} {o:Option (AV)} {x1:List AV} (h:o=some (.lst 1 x1)) (k:Wp (f x1) P):Wp (dK wk [K.l 1] o f) P:=by
 subst h;exact k
theorem zGk {β:Type} {wk:Bool} {f:(Int)->(Bool)->Option β} (x2:Int) (x3:Bool):dK wk [K.tup 2,K.i IntKind.i64,K.b] (some (.tup [.int Go.IntKind.i64 x2,.bool x3])) f=f x2 x3:=rfl
theorem zUA {β:Type} {wk:Bool} {P:β->Prop} {f:(Int)->(AV)->Option β} {o:Option (AV)} {x2:Int} {x3:AV} (h:o=some (.tup [.int Go.IntKind.i64 x2,x3])) (k:Wp (f x2 x3) P):Wp (dK wk [K.tup 2,K.i IntKind.i64,K.av] o f) P:=by
 subst h;exact k
theorem zB2 {β:Type} {wk:Bool} {P:β->Prop} {f:(Int)->(List Nat)->(List Nat)->(Int)->(Int)->(Int)->Option β} {o:Option (AV)} {x2:Int} {x3:List Nat} {x4:List Nat} {x5:Int} {x6:Int} {x7:Int} (h:o=some (.agg [.int Go.IntKind.i64 x2,.str x3,.str x4,.int Go.IntKind.i64 x5,.int Go.IntKind.i64 x6,.int Go.IntKind.i64 x7])) (k:Wp (f x2 x3 x4 x5 x6 x7) P):Wp (dK wk [K.agg 6,K.i IntKind.i64,K.s,K.s,K.i IntKind.i64,K.i IntKind.i64,K.i IntKind.i64] o f) P:=by
 subst h;exact k
theorem zNZ {β:Type} {wk:Bool} {f:(List AV)->(Int)->(Int)->Option β} (x3:List AV) (x5:Int) (x6:Int):dK wk [K.tup 2,K.agg 1,K.l 6,K.agg 2,K.i IntKind.i64,K.i IntKind.i64] (some (.tup [.agg [.lst 6 x3],.agg [.int Go.IntKind.i64 x5,.int Go.IntKind.i64 x6]])) f=f x3 x5 x6:=rfl
theorem zN0 {β:Type} {wk:Bool} {P:β->Prop} {f:(List AV)->(Int)->(Int)->Option β} {o:Option (AV)} {x3:List AV} {x5:Int} {x6:Int} (h:o=some (.tup [.agg [.lst 6 x3],.agg [.int Go.IntKind.i64 x5,.int Go.IntKind.i64 x6]])) (k:Wp (f x3 x5 x6) P):Wp (dK wk [K.tup 2,K.agg 1,K.l 6,K.agg 2,K.i IntKind.i64,K.i IntKind.i64] o f) P:=by
 subst h;exact k
theorem zRT {β:Type} {wk:Bool} {P:β->Prop} {f:(Int)->(Int)->(Int)->(Int)->Option β} {o:Option (AV)} {x2:Int} {x3:Int} {x4:Int} {x5:Int} (h:o=some (.agg [.int Go.IntKind.i64 x2,.int Go.IntKind.i64 x3,.int Go.IntKind.i64 x4,.int Go.IntKind.i64 x5])) (k:Wp (f x2 x3 x4 x5) P):Wp (dK wk [K.agg 4,K.i IntKind.i64,K.i IntKind.i64,K.i IntKind.i64,K.i IntKind.i64] o f) P:=by
 subst h;exact k
theorem zP2 {β:Type} {wk:Bool} {P:β->Prop} {f:(List AV)->Option β} {o:Option (AV)} {x2:List AV} (h:o=some (.agg [.lst 6 x2])) (k:Wp (f x2) P):Wp (dK wk [K.agg 1,K.l 6] o f) P:=by
 subst h;exact k
theorem zP3 {β:Type} {wk:Bool} {R:Option β->Option β->Prop} {f f0:(List AV)->Option β} {o:Option (AV)} {x2:List AV} (h:o=some (.agg [.lst 6 x2])) (k:R (f x2) (f0 x2)):R (dK wk [K.agg 1,K.l 6] o f) (dK wk [K.agg 1,K.l 6] o f0):=by
 subst h;exact k
theorem zNa {β:Type} {wk:Bool} {f:(List Nat)->(Int)->Option β} (x2:List Nat) (x3:Int):dK wk [K.agg 2,K.s,K.i IntKind.i64] (some (.agg [.str x2,.int Go.IntKind.i64 x3])) f=f x2 x3:=rfl
theorem zAB {β:Type} {wk:Bool} {P:β->Prop} {f:(List Nat)->(Int)->Option β} {o:Option (AV)} {x2:List Nat} {x3:Int} (h:o=some (.agg [.str x2,.int Go.IntKind.i64 x3])) (k:Wp (f x2 x3) P):Wp (dK wk [K.agg 2,K.s,K.i IntKind.i64] o f) P:=by
 subst h;exact k
theorem zDy {β:Type} {wk:Bool} {P:β->Prop} {f:(Int)->(List Nat)->(List Nat)->(Int)->(Int)->(Int)->(List Nat)->(Int)->(Int)->(Int)->(Int)->(List AV)->(Int)->(Int)->(Int)->Option β} {o:Option (AV)} {x3:Int} {x4:List Nat} {x5:List Nat} {x6:Int} {x7:Int} {x8:Int} {x9:List Nat} {x10:Int} {x11:Int} {x12:Int} {x13:Int} {x14:List AV} {x15:Int} {x17:Int} {x18:Int} (h:o=some (.tup [.agg [.int Go.IntKind.i64 x3,.str x4,.str x5,.int Go.IntKind.i64 x6,.int Go.IntKind.i64 x7,.int Go.IntKind.i64 x8,.str x9,.int Go.IntKind.i64 x10,.int Go.IntKind.i64 x11,.int Go.IntKind.i64 x12,.int Go.IntKind.i64 x13,.lst 6 x14,.int Go.IntKind.i64 x15],.agg [.int Go.IntKind.i64 x17,.int Go.IntKind.i64 x18]])) (k:Wp (f x3 x4 x5 x6 x7 x8 x9 x10 x11 x12 x13 x14 x15 x17 x18) P):Wp (dK wk [K.tup 2,K.agg 13,K.i IntKind.i64,K.s,K.s,K.i IntKind.i64,K.i IntKind.i64,K.i IntKind.i64,K.s,K.i IntKind.i64,K.i IntKind.i64,K.i IntKind.i64,K.i IntKind.i64,K.l 6,K.i IntKind.i64,K.agg 2,K.i IntKind.i64,K.i IntKind.i64] o f) P:=by
 subst h;exact k
theorem zLD {β:Type} {wk:Bool} {P:β->Prop} {f:(List AV)->(Int)->(Int)->Option β} {o:Option (AV)} {x2:List AV} {x4:Int} {x5:Int} (h:o=some (.tup [.lst 2 x2,.agg [.int Go.IntKind.i64 x4,.int Go.IntKind.i64 x5]])) (k:Wp (f x2 x4 x5) P):Wp (dK wk [K.tup 2,K.l 2,K.agg 2,K.i IntKind.i64,K.i IntKind.i64] o f) P:=by
 subst h;exact k
theorem zP4 {β:Type} {wk:Bool} {P:β->Prop} {f:(List Nat)->(Int)->Option β} {o:Option (AV)} {x2:List Nat} {x3:Int} (h:o=some (.tup [.str x2,.int Go.IntKind.i64 x3])) (k:Wp (f x2 x3) P):Wp (dK wk [K.tup 2,K.s,K.i IntKind.i64] o f) P:=by
 subst h;exact k
theorem zKP {β:Type} {wk:Bool} {P:β->Prop} {f:(List AV)->(Int)->(Int)->Option β} {o:Option (AV)} {x2:List AV} {x4:Int} {x5:Int} (h:o=some (.tup [.lst 13 x2,.agg [.int Go.IntKind.i64 x4,.int Go.IntKind.i64 x5]])) (k:Wp (f x2 x4 x5) P):Wp (dK wk [K.tup 2,K.l 13,K.agg 2,K.i IntKind.i64,K.i IntKind.i64] o f) P:=by
 subst h;exact k
theorem zBT {β:Type} {wk:Bool} {P:β->Prop} {f:(Int)->(List Nat)->(List Nat)->(Int)->(Int)->(Int)->(List Nat)->(Int)->(Int)->(Int)->(Int)->(List AV)->(Int)->Option β} {o:Option (AV)} {x2:Int} {x3:List Nat} {x4:List Nat} {x5:Int} {x6:Int} {x7:Int} {x8:List Nat} {x9:Int} {x10:Int} {x11:Int} {x12:Int} {x13:List AV} {x14:Int} (h:o=some (.agg [.int Go.IntKind.i64 x2,.str x3,.str x4,.int Go.IntKind.i64 x5,.int Go.IntKind.i64 x6,.int Go.IntKind.i64 x7,.str x8,.int Go.IntKind.i64 x9,.int Go.IntKind.i64 x10,.int Go.IntKind.i64 x11,.int Go.IntKind.i64 x12,.lst 6 x13,.int Go.IntKind.i64 x14])) (k:Wp (f x2 x3 x4 x5 x6 x7 x8 x9 x10 x11 x12 x13 x14) P):Wp (dK wk [K.agg 13,K.i IntKind.i64,K.s,K.s,K.i IntKind.i64,K.i IntKind.i64,K.i IntKind.i64,K.s,K.i IntKind.i64,K.i IntKind.i64,K.i IntKind.i64,K.i IntKind.i64,K.l 6,K.i IntKind.i64] o f) P:=by
 subst h;exact k
theorem z3 {β:Type} {wk:Bool} {f:(Bool)->(Int)->(List Nat)->(List Nat)->(Int)->(Int)->(Int)->(List Nat)->(Int)->(Int)->(Int)->(Int)->(List AV)->(Int)->(List Nat)->Option β} (x1:Bool) (x2:Int) (x3:List Nat) (x4:List Nat) (x5:Int) (x6:Int) (x7:Int) (x8:List Nat) (x9:Int) (x10:Int) (x11:Int) (x12:Int) (x13:List AV) (x14:Int) (x15:List Nat):dD wk [D.v K.b,D.hc 0 false 14,D.v (K.i IntKind.i64),D.v K.s,D.v K.s,D.v (K.i IntKind.i64),D.v (K.i IntKind.i64),D.v (K.i IntKind.i64),D.v K.s,D.v (K.i IntKind.i64),D.v (K.i IntKind.i64),D.v (K.i IntKind.i64),D.v (K.i IntKind.i64),D.v (K.l 6),D.v (K.i IntKind.i64),D.v K.s] (some (.bool x1,[(0,.cells false [.int Go.IntKind.i64 x2,.str x3,.str x4,.int Go.IntKind.i64 x5,.int Go.IntKind.i64 x6,.int Go.IntKind.i64 x7,.str x8,.int Go.IntKind.i64 x9,.int Go.IntKind.i64 x10,.int Go.IntKind.i64 x11,.int Go.IntKind.i64 x12,.lst 6 x13,.int Go.IntKind.i64 x14,.str x15])],[])) f=f x1 x2 x3 x4 x5 x6 x7 x8 x9 x10 x11 x12 x13 x14 x15:=rfl
theorem zx {β:Type} {wk:Bool} {P:β->Prop} {f:(Bool)->(Int)->(List Nat)->(List Nat)->(Int)->(Int)->(Int)->(List Nat)->(Int)->(Int)->(Int)->(Int)->(List AV)->(Int)->(List Nat)->Option β} {o:Option (AV×Heap×Vecs)} {x1:Bool} {x2:Int} {x3:List Nat} {x4:List Nat} {x5:Int} {x6:Int} {x7:Int} {x8:List Nat} {x9:Int} {x10:Int} {x11:Int} {x12:Int} {x13:List AV} {x14:Int} {x15:List Nat} (h:o=some (.bool x1,[(0,.cells false [.int Go.IntKind.i64 x2,.str x3,.str x4,.int Go.IntKind.i64 x5,.int Go.IntKind.i64 x6,.int Go.IntKind.i64 x7,.str x8,.int Go.IntKind.i64 x9,.int Go.IntKind.i64 x10,.int Go.IntKind.i64 x11,.int Go.IntKind.i64 x12,.lst 6 x13,.int Go.IntKind.i64 x14,.str x15])],[])) (k:Wp (f x1 x2 x3 x4 x5 x6 x7 x8 x9 x10 x11 x12 x13 x14 x15) P):Wp (dD wk [D.v K.b,D.hc 0 false 14,D.v (K.i IntKind.i64),D.v K.s,D.v K.s,D.v (K.i IntKind.i64),D.v (K.i IntKind.i64),D.v (K.i IntKind.i64),D.v K.s,D.v (K.i IntKind.i64),D.v (K.i IntKind.i64),D.v (K.i IntKind.i64),D.v (K.i IntKind.i64),D.v (K.l 6),D.v (K.i IntKind.i64),D.v K.s] o f) P:=by
 subst h;exact k
theorem zI1 {β:Type} {wk:Bool} {R:Option β->Option β->Prop} {f f0:(Bool)->(Int)->(List Nat)->(List Nat)->(Int)->(Int)->(Int)->(List Nat)->(Int)->(Int)->(Int)->(Int)->(List AV)->(Int)->(List Nat)->Option β} {o:Option (AV×Heap×Vecs)} {x1:Bool} {x2:Int} {x3:List Nat} {x4:List Nat} {x5:Int} {x6:Int} {x7:Int} {x8:List Nat} {x9:Int} {x10:Int} {x11:Int} {x12:Int} {x13:List AV} {x14:Int} {x15:List Nat} (h:o=some (.bool x1,[(0,.cells false [.int Go.IntKind.i64 x2,.str x3,.str x4,.int Go.IntKind.i64 x5,.int Go.IntKind.i64 x6,.int Go.IntKind.i64 x7,.str x8,.int Go.IntKind.i64 x9,.int Go.IntKind.i64 x10,.int Go.IntKind.i64 x11,.int Go.IntKind.i64 x12,.lst 6 x13,.int Go.IntKind.i64 x14,.str x15])],[])) (k:R (f x1 x2 x3 x4 x5 x6 x7 x8 x9 x10 x11 x12 x13 x14 x15) (f0 x1 x2 x3 x4 x5 x6 x7 x8 x9 x10 x11 x12 x13 x14 x15)):R (dD wk [D.v K.b,D.hc 0 false 14,D.v (K.i IntKind.i64),D.v K.s,D.v K.s,D.v (K.i IntKind.i64),D.v (K.i IntKind.i64),D.v (K.i IntKind.i64),D.v K.s,D.v (K.i IntKind.i64),D.v (K.i IntKind.i64),D.v (K.i IntKind.i64),D.v (K.i IntKind.i64),D.v (K.l 6),D.v (K.i IntKind.i64),D.v K.s] o f) (dD wk [D.v K.b,D.hc 0 false 14,D.v (K.i IntKind.i64),D.v K.s,D.v K.s,D.v (K.i IntKind.i64),D.v (K.i IntKind.i64),D.v (K.i IntKind.i64),D.v K.s,D.v (K.i IntKind.i64),D.v (K.i IntKind.i64),D.v (K.i IntKind.i64),D.v (K.i IntKind.i64),D.v (K.l 6),D.v (K.i IntKind.i64),D.v K.s] o f0):=by
 subst h;exact k
theorem zEb {β:Type} {wk:Bool} {P:β->Prop} {f:Option β} {o:Option (AV×Heap×Vecs)}  (h:o=some (AV.sym 0,[],[(0,.mp [(AV.str [117,115,101,114],AV.func (Fn.func 83) [] []),(AV.str [98,97,110,100],AV.func (Fn.func 84) [] []),(AV.str [99,111,117,110,116],AV.func (Fn.func 85) [] []),(AV.str [100,111,119,110],AV.func (Fn.func 86) [] []),(AV.str [105,110],AV.func (Fn.func 87) [] []),(AV.str [99,112,117],AV.func (Fn.func 88) [] []),(AV.str [114,97,109],AV.func (Fn.func 89) [] []),(AV.str [100,105,115,107],AV.func (Fn.func 90) [] []),(AV.str [112,111,114,116,115],AV.func (Fn.func 91) [] []),(AV.str [114,117,108,101],AV.func (Fn.func 92) [] []),(AV.str [98,97,116,99,104],AV.func (Fn.func 93) [] [])])])) (k:Wp (f) P):Wp (dD wk [D.v (K.c (AV.sym 0)),D.mpc 0 [(AV.str [117,115,101,114],AV.func (Fn.func 83) [] []),(AV.str [98,97,110,100],AV.func (Fn.func 84) [] []),(AV.str [99,111,117,110,116],AV.func (Fn.func 85) [] []),(AV.str [100,111,119,110],AV.func (Fn.func 86) [] []),(AV.str [105,110],AV.func (Fn.func 87) [] []),(AV.str [99,112,117],AV.func (Fn.func 88) [] []),(AV.str [114,97,109],AV.func (Fn.func 89) [] []),(AV.str [100,105,115,107],AV.func (Fn.func 90) [] []),(AV.str [112,111,114,116,115],AV.func (Fn.func 91) [] []),(AV.str [114,117,108,101],AV.func (Fn.func 92) [] []),(AV.str [98,97,116,99,104],AV.func (Fn.func 93) [] [])]] o f) P:=by
 subst h;exact k
theorem zVD {β:Type} {wk:Bool} {R:Option β->Option β->Prop} {f f0:Option β} {o:Option (AV×Heap×Vecs)}  (h:o=some (AV.sym 0,[],[(0,.mp [(AV.str [117,115,101,114],AV.func (Fn.func 83) [] []),(AV.str [98,97,110,100],AV.func (Fn.func 84) [] []),(AV.str [99,111,117,110,116],AV.func (Fn.func 85) [] []),(AV.str [100,111,119,110],AV.func (Fn.func 86) [] []),(AV.str [105,110],AV.func (Fn.func 87) [] []),(AV.str [99,112,117],AV.func (Fn.func 88) [] []),(AV.str [114,97,109],AV.func (Fn.func 89) [] []),(AV.str [100,105,115,107],AV.func (Fn.func 90) [] []),(AV.str [112,111,114,116,115],AV.func (Fn.func 91) [] []),(AV.str [114,117,108,101],AV.func (Fn.func 92) [] []),(AV.str [98,97,116,99,104],AV.func (Fn.func 93) [] [])])])) (k:R (f) (f0)):R (dD wk [D.v (K.c (AV.sym 0)),D.mpc 0 [(AV.str [117,115,101,114],AV.func (Fn.func 83) [] []),(AV.str [98,97,110,100],AV.func (Fn.func 84) [] []),(AV.str [99,111,117,110,116],AV.func (Fn.func 85) [] []),(AV.str [100,111,119,110],AV.func (Fn.func 86) [] []),(AV.str [105,110],AV.func (Fn.func 87) [] []),(AV.str [99,112,117],AV.func (Fn.func 88) [] []),(AV.str [114,97,109],AV.func (Fn.func 89) [] []),(AV.str [100,105,115,107],AV.func (Fn.func 90) [] []),(AV.str [112,111,114,116,115],AV.func (Fn.func 91) [] []),(AV.str [114,117,108,101],AV.func (Fn.func 92) [] []),(AV.str [98,97,116,99,104],AV.func (Fn.func 93) [] [])]] o f) (dD wk [D.v (K.c (AV.sym 0)),D.mpc 0 [(AV.str [117,115,101,114],AV.func (Fn.func 83) [] []),(AV.str [98,97,110,100],AV.func (Fn.func 84) [] []),(AV.str [99,111,117,110,116],AV.func (Fn.func 85) [] []),(AV.str [100,111,119,110],AV.func (Fn.func 86) [] []),(AV.str [105,110],AV.func (Fn.func 87) [] []),(AV.str [99,112,117],AV.func (Fn.func 88) [] []),(AV.str [114,97,109],AV.func (Fn.func 89) [] []),(AV.str [100,105,115,107],AV.func (Fn.func 90) [] []),(AV.str [112,111,114,116,115],AV.func (Fn.func 91) [] []),(AV.str [114,117,108,101],AV.func (Fn.func 92) [] []),(AV.str [98,97,116,99,104],AV.func (Fn.func 93) [] [])]] o f0):=by
 subst h;exact k
theorem zPB {β:Type} {wk:Bool} {P:β->Prop} {f:(List AV)->Option β} {o:Option (AV×Heap×Vecs)} {x3:List AV} (h:o=some (.tup [],[(0,.cells false [AV.sym 0])],[(0,.vec 1 x3)])) (k:Wp (f x3) P):Wp (dD wk [D.v (K.tup 0),D.hc 0 false 1,D.v (K.c (AV.sym 0)),D.vec 0 1] o f) P:=by
 subst h;exact k
end Go.Proofs.YtdeeimaahdgeaaaGreatDoor.spec
namespace Go.Proofs.YtdeeimaahdgeaaaGreatDoor.spec
open Go Go.Sy
abbrev nd6 (k:Int) (s t:List Nat) (n l r:Int):AV:=.agg [.int .i64 k,.str s,.str t,.int .i64 n,.int .i64 l,.int .i64 r]
def topL:Nat:=4611686018427387904
def TL (es:List AV) (L:Nat->Nat) (m:Nat):Prop:=∀j,j<m->∃k s t n l r,es[j]? = some (nd6 k s t n l r)/\(-9223372036854775808<=n/\n<=9223372036854775807)/\s.length+t.length+24<=L j/\L j<=topL ∧
 (k=7->∃a:Nat,l=Int.ofNat a/\a<j/\L a+3<=L j)/\(k=8\/k=9->∃a b:Nat,l=Int.ofNat a/\r=Int.ofNat b/\a<j/\b<j/\L a+L b+7<=L j)
def upd {α:Type} (f:Nat->α) (a:Nat) (v:α):Nat->α:=fun j=>if j=a then v else f j
theorem zDz {α:Type} {f:Nat->α} {a:Nat} {v:α}:upd f a v a=v:=if_pos rfl
theorem zAK {α:Type} {f:Nat->α} {a j:Nat} {v:α} (h:j≠a):upd f a v j=f j:=if_neg h
def rs (L:Nat->Nat) (c:Nat->Int):Nat->Nat
 | 0=>0
 | i+1=>rs L c i+if c i=0 then L i else 0
theorem zLY {L L':Nat->Nat} {c c':Nat->Int}:∀{i:Nat},(∀j,j<i->L j=L' j)->(∀j,j<i->(c j=c' j))->rs L c i=rs L' c' i
 | 0,_,_=>rfl
 | i+1,h1,h2=>by
  rw [rs,rs,zLY (fun j h=>h1 j (by omega)) fun j h=>h2 j (by omega),h1 i (by omega),h2 i (by omega)]
theorem zP5 {L:Nat->Nat} {c:Nat->Int} {a:Nat} (h0:c a=0) {v:Int} (hv:v≠0):∀{i:Nat},a<i->rs L (upd c a v) i+L a=rs L c i
 | 0,h=>by omega
 | i+1,h=>by
  rw [rs,rs];by_cases e:a=i
  ·subst e;rw [zDz,if_neg hv,if_pos h0,zLY (L':=L) (c':=c) (fun _ _=>rfl) fun j hj=>zAK (by omega)]
   omega
  ·have:=zP5 (L:=L) (c:=c) h0 hv (show a<i by omega)
   rw [zAK (by omega)]
   omega
def fb:Nat->Nat->Nat->Nat
 | 0,a,b=>a
 | n+1,a,b=>fb n b (a+b+1)
theorem zRU:∀(n a b:Nat),fb (n+2) a b=fb (n+1) a b+fb n a b+1
 | 0,a,b=>by simp only [fb];omega
 | n+1,a,b=>by
  have:=zRU n b (a+b+1);rw [fb,fb,fb] at *;exact this
theorem zQJ:∀(n a b:Nat),a<b->fb n a b<fb (n+1) a b
 | 0,a,b,h=>by simp only [fb];exact h
 | n+1,a,b,h=>by
  have:=zQJ n b (a+b+1) (by omega)
  rw [fb,fb] at *;exact this
def fbL (j:Nat):Nat:=100*fb j 1 2
theorem zI2 {a b:Nat} (h:a<b):∀{n m:Nat},n<=m->fb n a b<=fb m a b:=by
 intro n m hm
 induction m with
 | zero=>
  have:n=0:=by omega
  subst this;exact Nat.le_refl _
 | succ m ih=>
  by_cases e:n=m+1
  ·subst e;exact Nat.le_refl _
  ·exact Nat.le_trans (ih (by omega)) (Nat.le_of_lt (zQJ m a b h))
theorem zUB {a j:Nat} (h:a<j):fbL a+3<=fbL j:=by
 have h1:=zQJ a 1 2 (by omega)
 have h2:=zI2 (a:=1) (b:=2) (by omega) (show a+1<=j by omega)
 unfold fbL;omega
theorem zUC {a b j:Nat} (h:a<b) (h2:b<j):fbL a+fbL b+7<=fbL j:=by
 obtain ⟨i,rfl⟩:∃i,j=i+2:=⟨j-2,by omega⟩
 have h0:=zRU i 1 2;have h1:=zI2 (a:=1) (b:=2) (by omega) (show a<=i by omega)
 have h2:=zI2 (a:=1) (b:=2) (by omega) (show b<=i+1 by omega)
 unfold fbL;omega
theorem zUD {j:Nat} (h:j<=64):fbL j<=topL:=by
 have h1:=zI2 (a:=1) (b:=2) (by omega) h
 have h2:fb 64 1 2<=40000000000000000:=by decide
 unfold fbL topL;omega
theorem zVE (j:Nat):100<=fbL j:=by
 have h1:=zI2 (a:=1) (b:=2) (by omega) (show 0<=j by omega)
 have:fb 0 1 2=1:=rfl;unfold fbL;omega
end Go.Proofs.YtdeeimaahdgeaaaGreatDoor.spec
namespace Go.Proofs.YtdeeimaahdgeaaaGreatDoor.spec
open Go Go.Sy
variable [MX]
def okQ' (c:Nat):Prop:=32<=c/\c<=126/\c≠34/\c≠35
instance:DecidablePred okQ':=fun c=>by unfold okQ';infer_instance
abbrev okS (s:List Nat):Prop:=∀c∈s,okQ' c
theorem zJE {k:Nat} (h:k<10):(UInt8.ofNat (48+k)).toNat=48+k:=by
 rw [UInt8.toNat_ofNat'];omega
theorem zRV {k:Nat} (h:k<10):okQ' (48+k):=⟨by omega,by omega,by omega,by omega⟩
theorem zNP (n:Nat):okS ((Lib.decDigits n).map UInt8.toNat):=by
 induction n using Nat.strongRecOn with
 | ind n ih=>
  rw [Lib.decDigits];by_cases h:n<10
  ·rw [dif_pos h];intro c hc;simp only [List.map_cons,List.map_nil,zJE h,List.mem_singleton] at hc;subst hc;exact zRV h
  ·rw [dif_neg h,List.map_append];intro c hc;rcases List.mem_append.1 hc with hc | hc
   ·exact ih (n / 10) (by omega) c hc
   ·have h9:=Nat.mod_lt n (by decide:0<10)
    simp only [List.map_cons,List.map_nil,zJE h9,List.mem_singleton] at hc;subst hc;exact zRV h9
theorem zQK (n:Int) (h0:-9223372036854775808<=n) (h1:n<=9223372036854775807):∃s,zAZ n (Int.ofNat 10)=some (.str s)/\s.length<=21/\okS s:=by
 refine ⟨(Lib.itoa n).map UInt8.toNat,?_,?_,?_⟩
 ·show (match ((Int.ofNat 10==10)&&decide (-9223372036854775808<=n/\n<=9223372036854775807)) with | true=>some (AV.str ((Lib.itoa n).map UInt8.toNat)) | false=>none)=_
  rw [decide_eq_true (⟨h0,h1⟩:-9223372036854775808<=n/\n<=9223372036854775807)];rfl
 ·rw [List.length_map];exact Lib.itoa_length_le n h0 h1
 ·unfold Lib.itoa;split
  ·intro c hc;rcases List.mem_cons.1 hc with rfl | hc
   ·decide
   ·exact zNP _ c hc
  ·exact zNP _
theorem zN1 (s:List Nat) (c:Nat):∃n,zAe s (Int.ofNat c)=some (.int .i64 n):=⟨_,rfl⟩
theorem zO2 (s:List Nat) (h:s.length<=1000):∃n v,zEf s (Int.ofNat 10) (Int.ofNat 64)=some (.tup [.int .i64 n,v])/\-9223372036854775808<=n/\n<=9223372036854775807:=by
 have hs:∀l,-9223372036854775808<=Lib.intSat 64 l/\Lib.intSat 64 l<=9223372036854775807:=fun l=>by unfold Lib.intSat;split <;> decide
 have e:Nat.ble s.length 281474976710656=true:=by rw [Nat.ble_eq];omega
 have e2:(Nat.ble s.length 281474976710656&&(Int.ofNat 10==10&&Int.ofNat 64==64))=true:=by rw [e];rfl
 unfold zEf zDj zOc;simp only [e2];cases hp:Lib.parseIntB 64 (s.map UInt8.ofNat) with
 | ok v=>
  have hb:=Lib.parseIntB_bounds hp;exact ⟨_,_,rfl,hb.1,Int.le_of_lt_add_one hb.2⟩
 | range=>exact ⟨_,_,rfl,hs _⟩
 | _=>exact ⟨_,_,rfl,by decide,by decide⟩
def okA (a b c d:Int):Prop:=(0<=a/\a<=1099511627776)/\(0<=b/\b<=1099511627776)/\(0<=c/\c<=1099511627776)/\(0<=d/\d<=1099511627776)
instance (a b c d:Int):Decidable (okA a b c d):=by unfold okA;infer_instance
theorem zCn {β:Type} {o:Option β} {x:β} (h:Wp o fun v=>v=x):o=some x:=let ⟨_,e,h⟩:=h;h▸e
theorem zI3 (a b c d:Int):zFs a b c d=some (.int .i64 (if okA a b c d then 0 else 2)):=by
 refine zCn ?_
 rw [zJ8];refine zRT (zJ7 ..) ?_
 repeat' first | refine Wp.ite (fun _=>?_) (fun _=>?_) | refine Wp.mk ?_
 all_goals (first | rw [if_neg (by unfold okA;omega)];rfl | rw [if_pos (by unfold okA;omega)];rfl)
def zTA (a b c d a' b' c' d':Int):Prop:=a<=a'/\b<=b'/\c<=c'/\d<=d'
instance (a b c d a' b' c' d':Int):Decidable (zTA a b c d a' b' c' d'):=by unfold zTA;infer_instance
def tx (m:Nat) (s:List Nat):Prop:=s.length<=m/\okS s
theorem zC0 (m:Nat):tx m []:=⟨Nat.zero_le _,fun c hc=>by cases hc⟩
theorem zAN {a b:List Nat} (h:okS a) (k:okS b):okS (a++b):=fun c hc=>(List.mem_append.1 hc).elim (h c) (k c)
theorem zLZ {s:List Nat} {a j:Nat} (hj:j<s.length) (ha:a<=j) (h:okS ((s.take j).drop a)) (hc:okQ' s[j]):okS ((s.take (j+1)).drop a):=by
 have e:s.take (j+1)=s.take j++[s[j]]:=by simp
 rw [e,List.drop_append_of_le_length (by rw [List.length_take];omega)]
 exact zAN h fun c hc'=>by rw [List.mem_singleton.1 hc'];exact hc
abbrev bytes (s:List Nat):List AV:=s.map fun b=>AV.int .u8 (.ofNat b)
abbrev isB (v:AV):Prop:=∃b,v=.bool b/\True
theorem zB3 (s:List Nat):Wp (zq s) isB:=by
 have loop:∀(n i:Nat),i<=s.length->s.length-i<n->s.length<=16->Wp (zC2 n (Int.ofNat (bytes s).length) (Int.ofNat i) (bytes s)) isB:=by
  intro n
  induction n with
  | zero=>intro i _ h;omega
  | succ n ih=>
   intro i hi hn hs;rw [zGP];rw [List.length_map];refine Wp.lt (fun h=>zJC h (qk_u (zMN h) ?_)) fun _=>Wp.mk ⟨_,rfl,trivial⟩
   have next:∀b,Wp (zAb n (Int.ofNat s.length) (Int.ofNat i) b (bytes s)) isB:=fun b=>by
    rw [zGO];refine Wp.if (fun _=>Wp.mk ⟨_,rfl,trivial⟩) fun _=>?_
    rw [zo (by omega)]
    have:=ih (i+1) h (by omega) hs
    rwa [List.length_map] at this
   repeat' first | refine Wp.ite (fun _=>?_) (fun _=>?_) | exact next _
 rw [zGm];have j1:∀b,(b=true\/s.length<=16)->Wp (zA5 s b) isB:=fun b hb=>by
  rw [zET];refine Wp.if (fun _=>Wp.mk ⟨_,rfl,trivial⟩) fun h=>?_
  rw [zGQ];refine loop _ 0 (Nat.zero_le _) (z0 ?_) ?_ <;> rcases hb with hb | hb <;> first | omega | (rw [hb] at h;cases h)
 refine Wp.ite (fun _=>j1 _ (.inl rfl)) fun h1=>Wp.ite (fun _=>j1 _ (.inl rfl)) fun h2=>?_
 rw [Int.ofNat_eq_natCast] at h1 h2;have hl:0<s.length:=by omega
 have hx:ixN s 0=some s[0]:=zAW hl;rw [hx];refine Wp.ite (fun _=>j1 _ (.inl rfl)) fun h1=>j1 _ (.inr (by omega))
theorem zSX {s:List Nat} (h:zq s=some (.bool true)):s.length<=16:=by
 rcases Nat.lt_or_ge 16 s.length with h' | h'
 ·exfalso
  rw [zGm] at h;have h1:¬Int.ofNat s.length<1:=by rw [Int.ofNat_eq_natCast];omega
  have h2:Int.ofNat s.length > 16:=by rw [Int.ofNat_eq_natCast];omega
  simp only [h1,h2,decide_true,decide_false,zAu,zEa,zET] at h;cases h
 ·exact h'
theorem zJF (c:Int):zCh c=some (.bool (decide (48<=c/\c<=57))):=by
 rw [zMW];refine zCn (Wp.ite (fun h=>Wp.mk ?_) fun h=>Wp.mk ?_)
 ·congr 1;exact decide_eq_decide.2 (by omega)
 ·congr 1;exact (decide_eq_false (by omega)).symm
theorem or32:∀c,c<256->IntKind.wrap IntKind.u8 ↑(BitVec.toNat (BitVec.ofInt (IntKind.bits IntKind.u8) (Int.ofNat c) ||| BitVec.ofInt (IntKind.bits IntKind.u8) 32))>=97->IntKind.wrap IntKind.u8 ↑(BitVec.toNat (BitVec.ofInt (IntKind.bits IntKind.u8) (Int.ofNat c) ||| BitVec.ofInt (IntKind.bits IntKind.u8) 32))<=122->okQ' c:=by decide +kernel
theorem ib3:∀c,c<256->0<=Lib.indexByte ([45,95,46].map UInt8.ofNat) (UInt8.ofNat c)->okQ' c:=by decide +kernel
theorem zIE (c:Nat):Wp (zDC (Int.ofNat c)) fun v=>∃b,v=.bool b/\(c<256->b=true->okQ' c):=by
 rw [zL8,zL7,zJF];have hl:Wp (br (decide (IntKind.wrap IntKind.u8 ↑(BitVec.toNat (BitVec.ofInt (IntKind.bits IntKind.u8) (Int.ofNat c) ||| BitVec.ofInt (IntKind.bits IntKind.u8) 32))>=97)) (some (AV.bool (decide (IntKind.wrap IntKind.u8 ↑(BitVec.toNat (BitVec.ofInt (IntKind.bits IntKind.u8) (Int.ofNat c) ||| BitVec.ofInt (IntKind.bits IntKind.u8) 32))<=122)))) (some (AV.bool false))) fun v=>∃b,v=.bool b/\(c<256->b=true->okQ' c):=by
  refine Wp.ite (fun h=>Wp.mk ⟨_,rfl,fun h8 hb=>or32 c h8 h (of_decide_eq_true hb)⟩) fun _=>Wp.mk ⟨_,rfl,fun _ h=>by cases h⟩
 refine wk_b hl fun b hb=>Wp.if (fun ht=>Wp.mk ⟨_,rfl,fun h8 _=>hb h8 ht⟩) fun _=>qk_b rfl (Wp.if (fun ht=>Wp.mk ⟨_,rfl,fun h8 _=>?_⟩) fun _=>?_)
 ·have:=of_decide_eq_true ht;rw [Int.ofNat_eq_natCast] at this;exact ⟨by omega,by omega,by omega,by omega⟩
 ·refine qk_i (show zAe [45,95,46] (Int.ofNat c)=some (.int .i64 (Lib.indexByte ([45,95,46].map UInt8.ofNat) (UInt8.ofNat c))) from rfl) (Wp.mk ⟨_,rfl,fun h8 hb=>ib3 c h8 (of_decide_eq_true hb)⟩)
end Go.Proofs.YtdeeimaahdgeaaaGreatDoor.spec
namespace Go.Proofs.YtdeeimaahdgeaaaGreatDoor.spec
open Go Go.Sy
variable [MX]
abbrev isE (v:AV):Prop:=∃n,v=.int .i64 n/\True
theorem zLf {n k:Nat} (h:n<=2000001) (hk:k<=200):n*k<=zg/\n<=zg:=by
 have:n*k<=2000001*200:=Nat.mul_le_mul h hk;unfold zg;omega
def within (a b c d x y z u:Int):Prop:=okA a b c d->okA x y z u/\x<=a/\y<=b/\z<=c/\u<=d
end Go.Proofs.YtdeeimaahdgeaaaGreatDoor.spec
namespace Go.Proofs.YtdeeimaahdgeaaaGreatDoor.spec
open Go Go.Sy
variable [MX]
abbrev ndAV (k:Int) (s t:List Nat) (n l r:Int):AV:=.agg [.int .i64 k,.str s,.str t,.int .i64 n,.int .i64 l,.int .i64 r]
def Nds (es:List AV):Prop:=(∀e∈es,∃k s t n l r,e=ndAV k s t n l r/\-9223372036854775808<=n/\n<=9223372036854775807/\tx 2000000 s/\tx 2000000 t)/\es.length<=2000000
theorem Nds.at {β:Type} {P:β->Prop} {wk:Bool} {es:List AV} (h:Nds es) {i:Nat} (hi:i<es.length) {f:Int->List Nat->List Nat->Int->Int->Int->Option β} (k:∀kd s t n l r,es[i]=ndAV kd s t n l r->-9223372036854775808<=n->n<=9223372036854775807->Wp (f kd s t n l r) P):Wp (dK wk [K.agg 6,K.i IntKind.i64,K.s,K.s,K.i IntKind.i64,K.i IntKind.i64,K.i IntKind.i64] (ixN es (Int.ofNat i)) f) P:=by
 obtain ⟨kd,s,t,n,l,r,he,h1,h2,_⟩:=h.1 _ (List.getElem_mem hi);exact zB2 ((zAW hi).trans (congrArg some he)) (k _ _ _ _ _ _ he h1 h2)
theorem zF3 (es fs:List AV) (h:Nds es) (h':Nds fs):Wp (zO es fs) isB:=by
 have loop:es.length=fs.length->∀(n i:Nat),i<=es.length->es.length-i<n->Wp (zF n es fs (Int.ofNat es.length) (Int.ofNat i)) isB:=by
  intro hl n
  induction n with
  | zero=>intro i _ h;omega
  | succ n ih=>
   intro i hi hn;rw [zA1];refine Wp.lt (fun hlt=>h.at hlt fun _ _ _ _ _ _ _ _ _=>h'.at (hl▸hlt) fun _ _ _ _ _ _ _ _ _=>Wp.if (fun _=>Wp.mk ⟨_,rfl,trivial⟩) fun _=>?_) fun _=>Wp.mk ⟨_,rfl,trivial⟩
   rw [zo (by have:=h.2;omega)]
   exact ih (i+1) hlt (by omega)
 rw [zBG];refine Wp.if (fun _=>Wp.mk ⟨_,rfl,trivial⟩) fun e=>loop ?_ _ 0 (Nat.zero_le _) (z0 (by have:=h.2;omega))
 have e:(es.length:Int)=fs.length:=by simpa using e
 exact Int.ofNat_inj.1 e
end Go.Proofs.YtdeeimaahdgeaaaGreatDoor.spec
namespace Go.Proofs.YtdeeimaahdgeaaaGreatDoor.spec
open Go Go.Sy
variable [MX]
structure PS where
 s:List Nat
 i:Int
 dp:Int
 n:Int
 e:Int
 fa:Int
 l:List AV
 h8:∀c∈s,c<256
abbrev outS (v:AV) (q:PS):AV×Heap×Vecs:=(v,[(0,HO.cells false [.str q.s,.int .i64 q.i,.int .i64 q.dp,.int .i64 q.n,AV.sym 0,.int .i64 q.e,.int .i64 q.fa])],[(0,VI.vec 6 q.l)])
section
variable {β:Type} {wk:Bool} {P:β->Prop} {o:Option (AV×Heap×Vecs)}
theorem wdU {f:List Nat->Int->Int->Int->Int->Int->List AV->Option β} {R:PS->Prop} (h:Wp o fun v=>∃q,v=outS (.tup []) q/\R q) (k:∀q,R q->Wp (f q.s q.i q.dp q.n q.e q.fa q.l) P):Wp (dD wk [D.v (K.tup 0),D.hc 0 false 7,D.v K.s,D.v (K.i IntKind.i64),D.v (K.i IntKind.i64),D.v (K.i IntKind.i64),D.v (K.c (AV.sym 0)),D.v (K.i IntKind.i64),D.v (K.i IntKind.i64),D.vec 0 6] o f) P:=by
 obtain ⟨v,rfl,q,rfl,h⟩:=h;exact k q h
theorem wdB {f:Bool->List Nat->Int->Int->Int->Int->Int->List AV->Option β} {R:Bool->PS->Prop} (h:Wp o fun v=>∃b q,v=outS (.bool b) q/\R b q) (k:∀b q,R b q->Wp (f b q.s q.i q.dp q.n q.e q.fa q.l) P):Wp (dD wk [D.v K.b,D.hc 0 false 7,D.v K.s,D.v (K.i IntKind.i64),D.v (K.i IntKind.i64),D.v (K.i IntKind.i64),D.v (K.c (AV.sym 0)),D.v (K.i IntKind.i64),D.v (K.i IntKind.i64),D.vec 0 6] o f) P:=by
 obtain ⟨v,rfl,b,q,rfl,h⟩:=h;exact k b q h
theorem wdI {f:Int->List Nat->Int->Int->Int->Int->Int->List AV->Option β} {R:Int->PS->Prop} (h:Wp o fun v=>∃b q,v=outS (.int .i64 b) q/\R b q) (k:∀b q,R b q->Wp (f b q.s q.i q.dp q.n q.e q.fa q.l) P):Wp (dD wk [D.v (K.i IntKind.i64),D.hc 0 false 7,D.v K.s,D.v (K.i IntKind.i64),D.v (K.i IntKind.i64),D.v (K.i IntKind.i64),D.v (K.c (AV.sym 0)),D.v (K.i IntKind.i64),D.v (K.i IntKind.i64),D.vec 0 6] o f) P:=by
 obtain ⟨v,rfl,b,q,rfl,h⟩:=h;exact k b q h
theorem wdS {f:List Nat->List Nat->Int->Int->Int->Int->Int->List AV->Option β} {R:List Nat->PS->Prop} (h:Wp o fun v=>∃b q,v=outS (.str b) q/\R b q) (k:∀b q,R b q->Wp (f b q.s q.i q.dp q.n q.e q.fa q.l) P):Wp (dD wk [D.v K.s,D.hc 0 false 7,D.v K.s,D.v (K.i IntKind.i64),D.v (K.i IntKind.i64),D.v (K.i IntKind.i64),D.v (K.c (AV.sym 0)),D.v (K.i IntKind.i64),D.v (K.i IntKind.i64),D.vec 0 6] o f) P:=by
 obtain ⟨v,rfl,b,q,rfl,h⟩:=h;exact k b q h
end
def PS.nf (p:PS):Prop:=p.e=0/\p.fa=0
def WFn (j:Nat) (v:AV):Prop:=∃k s t n a b,v=nd6 k s t n a b/\(-9223372036854775808<=n/\n<=9223372036854775807)/\tx 24 s/\tx 32 t ∧
 (k=7->∃a':Nat,a=Int.ofNat a'/\a'<j)/\(k=8\/k=9->∃a' b':Nat,a=Int.ofNat a'/\b=Int.ofNat b'/\a'<b'/\b'<j)
def WF (l:List AV):Prop:=∀j v,l[j]? = some v->WFn j v
structure Inv (p:PS):Prop where
 i0:0<=p.i
 i1:p.i<=p.s.length
 big:p.s.length<=1024
 ok:p.nf->0<=p.dp/\p.dp<=32/\(p.l.length:Int)<=p.n/\p.n<=64/\WF p.l
structure Stp (k:Int) (p q:PS):Prop where
 s:q.s=p.s
 i:p.i<=q.i
 nf:q.nf->p.nf/\q.dp=p.dp/\q.n-q.l.length=p.n-p.l.length+k/\p.l.length<=q.l.length
theorem Stp.trans {a b:Int} {p q r:PS} (h:Stp a p q) (k:Stp b q r):Stp (a+b) p r:=⟨k.s.trans h.s,Int.le_trans h.i k.i,fun hr=>by
 obtain ⟨q1,q2,q3,q4⟩:=k.nf hr;obtain ⟨p1,p2,p3,p4⟩:=h.nf q1;exact ⟨p1,q2.trans p2,by omega,Nat.le_trans p4 q4⟩⟩
theorem Stp.trans0 {p q r:PS} {b:Int} (h:Stp 0 p q) (k:Stp b q r):Stp b p r:=by have:=h.trans k;rwa [Int.zero_add] at this
theorem mv {p:PS} (h:Inv p) {i:Int} (h1:p.i<=i) (h2:i<=p.s.length):Inv { p with i:=i }/\Stp 0 p { p with i:=i }:=⟨⟨Int.le_trans h.i0 h1,h2,h.big,fun hn=>h.ok hn⟩,rfl,h1,fun hn=>⟨hn,rfl,by show p.n-p.l.length=_;omega,Nat.le_refl _⟩⟩
theorem zMP {p:PS}:(p.e==0&&p.fa==0)=true↔p.nf:=by unfold PS.nf;simp
theorem zL0 {p:PS} (h:(!(p.e==0&&p.fa==0))=true):¬p.nf:=fun hn=>by rw [zMP.2 hn] at h;cases h
theorem zI4 {p:PS} (h:(!(p.e==0&&p.fa==0))=false):p.nf:=zMP.1 (by revert h;cases (p.e==0&&p.fa==0) <;> simp)
theorem zEc (p:PS) (h:Inv p):Wp (zL p.s p.i p.dp p.n p.e p.fa p.l) fun v=>∃q,v=outS (.tup []) q/\Inv q/\Stp 0 p q/\q.l=p.l:=by
 have big:=h.big;have loop:∀(n:Nat) (i:Int),p.i<=i->i<=p.s.length->p.s.length-i<n->Wp (zAV n p.s i p.dp p.n p.e p.fa p.l) fun v=>∃q,v=outS (.tup []) q/\Inv q/\Stp 0 p q/\q.l=p.l:=by
  intro n
  induction n with
  | zero=>intro i _ _ h;omega
  | succ n ih=>
   intro i h1 h2 hn;have i0:=h.i0;obtain ⟨j,rfl⟩:=Int.eq_ofNat_of_zero_le (Int.le_trans i0 h1);have fin:∃q,outS (.tup []) { p with i:=(j:Int) }=outS (.tup []) q/\Inv q/\Stp 0 p q/\q.l=p.l:=⟨{ p with i:=(j:Int) },rfl,(mv h h1 h2).1,(mv h h1 h2).2,rfl⟩
   rw [zGL];refine Wp.lt (i:=j) (fun hlt=>?_) fun _=>Wp.mk fin
   show Wp (bd (ixN p.s (Int.ofNat j)) _) _
   rw [zAW hlt];refine Wp.if (fun _=>?_) fun _=>Wp.mk fin
   rw [zGK,zN (by omega) (by omega)]
   exact ih _ (by omega) (by omega) (by omega)
 rw [zHX];exact loop _ _ (Int.le_refl _) h.i1 (by have:=h.i0;have:=z0 (n:=1025) (by omega);omega)
theorem zRW (t u:List Nat):∃b,zCo t u=some (.bool b)/\(b=true->u.length<=t.length):=by
 have:Wp (zCo t u) fun v=>∃b,v=.bool b/\(b=true->u.length<=t.length):=by
  rw [zIM];refine wk_b (R:=fun b=>b=true->u.length<=t.length) ?_ fun b hb=>Wp.mk ⟨_,rfl,hb⟩
  rw [zEN];refine Wp.ite (fun hl=>Wp.gd ⟨Int.natCast_nonneg _,hl⟩ (Wp.mk ⟨_,rfl,fun _=>Int.ofNat_le.1 hl⟩)) fun _=>Wp.mk ⟨_,rfl,fun h=>(by cases h)⟩
 obtain ⟨v,e,b,rfl,h⟩:=this;exact ⟨b,e,h⟩
theorem zFk (p:PS) (h:Inv p) (t:List Nat) (ht:t.length<=2):Wp (zB t p.s p.i p.dp p.n p.e p.fa p.l) fun v=>∃b q,v=outS (.bool b) q/\Inv q/\Stp 0 p q/\(b=true->p.i+t.length<=q.i)/\q.l=p.l:=by
 rw [zJ4];refine wdU (zEc p h) fun q hq=>Wp.gd ⟨hq.1.i0,hq.1.i1⟩ ?_
 obtain ⟨b,hb,hl⟩:=zRW (List.drop (Int.toNat q.i) (List.take (Int.toNat (Int.ofNat q.s.length)) q.s)) t;refine qk_b hb (Wp.if (fun hb=>Wp.mk ⟨false,q,rfl,hq.1,hq.2.1,fun h=>(by cases h),hq.2.2⟩) fun hb=>?_)
 have hb:b=true:=by simpa using hb
 have hl:=hl hb;rw [List.length_drop,List.length_take] at hl;have e1:Int.toNat (Int.ofNat q.s.length)=q.s.length:=rfl;have i0:=hq.1.i0;have i1:=hq.1.i1;have big:=hq.1.big;have st:=hq.2.1.i;rw [e1,Nat.min_self] at hl;rw [Int.ofNat_eq_natCast,zN (by omega) (by omega)]
 have m:=mv hq.1 (i:=q.i+t.length) (by omega) (by omega)
 exact Wp.mk ⟨true,{ q with i:=q.i+t.length },rfl,m.1,hq.2.1.trans m.2,fun _=>by show _<=q.i+(t.length:Int);omega,hq.2.2⟩
structure Inv0 (p:PS):Prop where
 i0:0<=p.i
 i1:p.i<=p.s.length
 big:p.s.length<=1024
theorem Inv.z {p:PS} (h:Inv p):Inv0 p:=⟨h.i0,h.i1,h.big⟩
theorem Stp.bad {p q:PS} {k:Int} (hs:q.s=p.s) (hi:p.i<=q.i) (hn:¬q.nf):Stp k p q:=⟨hs,hi,fun h=>absurd h hn⟩
theorem Inv0.bad {q:PS} (h:Inv0 q) (hn:¬q.nf):Inv q:=⟨h.i0,h.i1,h.big,fun h=>absurd h hn⟩
theorem zCN (e i:Int) (he:e≠0) (p:PS) (h:Inv0 p):Wp (zy e i p.s p.i p.dp p.n p.e p.fa p.l) fun v=>∃q,v=outS (.tup []) q/\Inv q/\q.s=p.s/\q.i=p.i/\¬q.nf:=by
 rw [zIN];refine Wp.if (fun hn=>?_) fun hn=>?_
 ·exact Wp.mk ⟨{ p with e:=e,fa:=i },rfl,⟨h.i0,h.i1,h.big,fun hn=>absurd hn.1 he⟩,rfl,rfl,fun hn=>he hn.1⟩
 ·have hn:¬p.nf:=fun hq=>by have hn:(p.e==0&&p.fa==0)=false:=hn;rw [zMP.2 hq] at hn;cases hn
  exact Wp.mk ⟨p,rfl,h.bad hn,rfl,rfl,hn⟩
theorem zHE (i:Int) (p:PS) (h:Inv p):Wp (zAf i p.s p.i p.dp p.n p.e p.fa p.l) fun v=>∃q,v=outS (.tup []) q/\Inv q/\Stp 1 p q/\(q.nf->q.l=p.l):=by
 rw [zIO];refine Wp.ite (fun hgt=>?_) fun hle=>?_
 ·refine wdU (zCN (Int.ofNat 3) i (by decide) { p with n:=wrapx .i64 (p.n+1) } ⟨h.i0,h.i1,h.big⟩) fun q hq=>Wp.mk ⟨q,rfl,hq.1,.bad hq.2.1 (by rw [hq.2.2.1];exact Int.le_refl _) hq.2.2.2,fun hn=>absurd hn hq.2.2.2⟩
 ·by_cases hn:p.nf
  ·obtain ⟨d0,d1,l1,n1,w⟩:=h.ok hn;rw [zN (by omega) (by omega)] at hle ⊢
   exact Wp.mk ⟨{ p with n:=p.n+1 },rfl,⟨h.i0,h.i1,h.big,fun _=>⟨d0,d1,by show (p.l.length:Int)<=p.n+1;omega,by show p.n+1<=64;omega,w⟩⟩,⟨rfl,Int.le_refl _,fun _=>⟨hn,rfl,by show p.n+1-p.l.length=p.n-p.l.length+1;omega,Nat.le_refl _⟩⟩,fun _=>rfl⟩
  ·exact Wp.mk ⟨{ p with n:=wrapx .i64 (p.n+1) },rfl,Inv0.bad ⟨h.i0,h.i1,h.big⟩ hn,.bad rfl (Int.le_refl _) hn,fun h=>absurd h hn⟩
structure In (b:Bool) (p q:PS):Prop where
 s:q.s=p.s
 i:q.i=p.i
 nf:q.nf->b=true/\p.nf/\q.dp=p.dp+1/\q.n=p.n/\q.l=p.l
theorem zTB (i:Int) (p:PS) (h:Inv p):Wp (zDo i p.s p.i p.dp p.n p.e p.fa p.l) fun v=>∃b q,v=outS (.bool b) q/\Inv q/\In b p q:=by
 rw [zJ5];refine Wp.ite (fun hgt=>?_) fun hle=>?_
 ·refine wdU (zCN (Int.ofNat 3) i (by decide) { p with dp:=wrapx .i64 (p.dp+1) } ⟨h.i0,h.i1,h.big⟩) fun q hq=>Wp.mk ⟨false,q,rfl,hq.1,hq.2.1,hq.2.2.1,fun hn=>absurd hn hq.2.2.2⟩
 ·by_cases hn:p.nf
  ·obtain ⟨d0,d1,l1,n1,w⟩:=h.ok hn;rw [zN (by omega) (by omega)] at hle ⊢
   exact Wp.mk ⟨true,{ p with dp:=p.dp+1 },rfl,⟨h.i0,h.i1,h.big,fun _=>⟨by show 0<=p.dp+1;omega,by show p.dp+1<=32;omega,l1,n1,w⟩⟩,rfl,rfl,fun _=>⟨rfl,hn,rfl,rfl,rfl⟩⟩
  ·exact Wp.mk ⟨true,{ p with dp:=wrapx .i64 (p.dp+1) },rfl,Inv0.bad ⟨h.i0,h.i1,h.big⟩ hn,rfl,rfl,fun h=>absurd h hn⟩
def Res (p q:PS) (x:Int):Prop:=q.nf->x=(q.l.length:Int)-1/\p.l.length<q.l.length
theorem zP6 (p:PS) (h:Inv p) (k:Int) (s t:List Nat) (n a b:Int) (hx:p.nf->(p.l.length:Int)+1<=p.n) (hw:p.nf->WFn p.l.length (nd6 k s t n a b)):Wp (zY k s t n a b p.s p.i p.dp p.n p.e p.fa p.l) fun v=>∃x q,v=outS (.int .i64 x) q/\Inv q/\Stp (-1) p q/\Res p q x:=by
 rw [zJi];refine Wp.if (fun hn=>?_) fun hn=>?_
 ·have hn:¬p.nf:=zL0 hn;exact Wp.mk ⟨_,p,rfl,h,.bad rfl (Int.le_refl _) hn,fun h=>absurd h hn⟩
 ·have hn:p.nf:=zI4 hn;obtain ⟨d0,d1,l1,n1,w⟩:=h.ok hn;have hx:=hx hn;have hw:=hw hn;have hl:p.l.length<=63:=by omega
  refine Wp.gd ?_ (Wp.mk ⟨_,{ p with l:=p.l++[nd6 k s t n a b] },rfl,⟨h.i0,h.i1,h.big,fun _=>⟨d0,d1,?_,n1,?_⟩⟩,⟨rfl,Int.le_refl _,fun _=>⟨hn,rfl,?_,?_⟩⟩,fun _=>⟨?_,?_⟩⟩)
  ·show (p.l.length+1)*64<=zg/\p.l.length+1<=zg
   unfold zg;omega
  ·show ((p.l++[_]).length:Int)<=p.n
   rw [List.length_append];show ((p.l.length+1:Nat):Int)<=p.n;omega
  ·intro j v hv;show WFn j v
   have hv:(p.l++[nd6 k s t n a b])[j]? = some v:=hv;by_cases hj:j<p.l.length
   ·rw [List.getElem?_append_left hj] at hv;exact w j v hv
   ·rw [List.getElem?_append_right (by omega)] at hv
    have:j=p.l.length:=by
     by_cases e:j-p.l.length=0
     ·omega
     ·rw [List.getElem?_eq_none (by show 1<=_;omega)] at hv;cases hv
    subst this;rw [Nat.sub_self] at hv;cases hv;exact hw
  ·show p.n-((p.l++[_]).length:Int)=p.n-p.l.length+-1
   rw [List.length_append];show p.n-((p.l.length+1:Nat):Int)=_;omega
  ·show p.l.length<=(p.l++[_]).length
   rw [List.length_append];omega
  ·show wrapx .i64 (Int.ofNat (p.l++[nd6 k s t n a b]).length-1)=((p.l++[nd6 k s t n a b]).length:Int)-1
   rw [List.length_append];show wrapx .i64 (Int.ofNat (p.l.length+1)-1)=((p.l.length+1:Nat):Int)-1
   rw [zCE (by omega) (by omega),Int.ofNat_eq_natCast];omega
  ·show p.l.length<(p.l++[_]).length
   rw [List.length_append];show _<p.l.length+1;omega
theorem zVF (c:Nat):Wp (zDp (Int.ofNat c)) fun v=>∃b,v=.bool b/\(c<256->b=true->okQ' c):=by
 rw [zHY]
 repeat' first | refine Wp.ite (fun _=>?_) (fun _=>?_) | refine Wp.if (fun _=>?_) (fun _=>?_) | refine qk_b (zJF _) ?_ | refine Wp.mk ⟨_,rfl,fun _ h=>?_⟩
 all_goals simp only [Int.ofNat_eq_natCast,decide_eq_true_eq,beq_iff_eq] at *
 all_goals exact ⟨by omega,by omega,by omega,by omega⟩
theorem zUE (c:Nat):Wp (zCh (Int.ofNat c)) fun v=>∃b,v=.bool b/\(c<256->b=true->okQ' c):=⟨_,zJF _,_,rfl,fun _ h=>by
 have:=of_decide_eq_true h;rw [Int.ofNat_eq_natCast] at this;exact ⟨by omega,by omega,by omega,by omega⟩⟩
theorem zPC (m:Int) (m0:0<=m) (m1:m<=1000) (p:PS) (h:Inv p):Wp (zAl m p.s p.i p.dp p.n p.e p.fa p.l) fun v=>∃t q,v=outS (.str t) q/\Inv q/\Stp 0 p q/\((t.length:Int)<=m/\okS t):=by
 have big:=h.big;have loop:∀(n:Nat) (i:Int),p.i<=i->i<=p.s.length->i-p.i<=m->p.s.length-i<n->okS (List.drop (Int.toNat p.i) (List.take (Int.toNat i) p.s))->Wp (zM n m p.i p.s i p.dp p.n p.e p.fa p.l) fun v=>∃t q,v=outS (.str t) q/\Inv q/\Stp 0 p q/\((t.length:Int)<=m/\okS t):=by
  intro n
  induction n with
  | zero=>intro i _ _ _ h;omega
  | succ n ih=>
   intro i h1 h2 h3 hn ho;have i0:=h.i0;obtain ⟨j,rfl⟩:=Int.eq_ofNat_of_zero_le (Int.le_trans i0 h1);have fin:Wp (gd (decide (0<=p.i/\p.i<=(j:Int)/\(j:Int)<=Int.ofNat p.s.length)) (some (AV.str (List.drop (Int.toNat p.i) (List.take (Int.toNat (j:Int)) p.s)),[(0,HO.cells false [.str p.s,.int .i64 (j:Int),.int .i64 p.dp,.int .i64 p.n,AV.sym 0,.int .i64 p.e,.int .i64 p.fa])],[(0,VI.vec 6 p.l)]))) fun v=>∃t q,v=outS (.str t) q/\Inv q/\Stp 0 p q/\((t.length:Int)<=m/\okS t):=by
    refine Wp.gd ⟨i0,h1,h2⟩ (Wp.mk ⟨_,{ p with i:=(j:Int) },rfl,(mv h h1 h2).1,(mv h h1 h2).2,?_,ho⟩)
    rw [List.length_drop,List.length_take];have e:Int.toNat (j:Int)=j:=rfl;rw [e];omega
   rw [zC8];refine Wp.lt (i:=j) (fun hlt=>Wp.ite (fun hm=>?_) fun _=>fin) fun _=>fin
   show Wp (bd (ixN p.s (Int.ofNat j)) _) _
   rw [zAW hlt];rw [zN (by omega) (by omega)] at hm
   refine wk_b (zVF _) fun b hb=>Wp.if (fun ht=>?_) fun _=>fin
   rw [zC7,zN (by omega) (by omega)]
   refine ih _ (by omega) (by omega) (by omega) (by omega) ?_
   have hjl:j<p.s.length:=by simpa using hlt
   exact zLZ hjl (by omega) ho (hb (p.h8 _ (List.getElem_mem hjl)) ht)
 rw [zDG];exact loop _ _ (Int.le_refl _) h.i1 (by omega) (by have:=h.i0;have:=z0 (n:=1025) (by omega);omega) (fun c hc=>by rw [List.drop_eq_nil_of_le (by rw [List.length_take];omega)] at hc;cases hc)
theorem zPD (m:Int) (m0:0<=m) (m1:m<=1000) (p:PS) (h:Inv p):Wp (zAU m p.s p.i p.dp p.n p.e p.fa p.l) fun v=>∃t q,v=outS (.str t) q/\Inv q/\Stp 0 p q/\((t.length:Int)<=m/\okS t):=by
 have big:=h.big;have loop:∀(n:Nat) (i:Int),p.i<=i->i<=p.s.length->i-p.i<=m->p.s.length-i<n->okS (List.drop (Int.toNat p.i) (List.take (Int.toNat i) p.s))->Wp (z6 n m p.i p.s i p.dp p.n p.e p.fa p.l) fun v=>∃t q,v=outS (.str t) q/\Inv q/\Stp 0 p q/\((t.length:Int)<=m/\okS t):=by
  intro n
  induction n with
  | zero=>intro i _ _ _ h;omega
  | succ n ih=>
   intro i h1 h2 h3 hn ho;have i0:=h.i0;obtain ⟨j,rfl⟩:=Int.eq_ofNat_of_zero_le (Int.le_trans i0 h1);have fin:Wp (gd (decide (0<=p.i/\p.i<=(j:Int)/\(j:Int)<=Int.ofNat p.s.length)) (some (AV.str (List.drop (Int.toNat p.i) (List.take (Int.toNat (j:Int)) p.s)),[(0,HO.cells false [.str p.s,.int .i64 (j:Int),.int .i64 p.dp,.int .i64 p.n,AV.sym 0,.int .i64 p.e,.int .i64 p.fa])],[(0,VI.vec 6 p.l)]))) fun v=>∃t q,v=outS (.str t) q/\Inv q/\Stp 0 p q/\((t.length:Int)<=m/\okS t):=by
    refine Wp.gd ⟨i0,h1,h2⟩ (Wp.mk ⟨_,{ p with i:=(j:Int) },rfl,(mv h h1 h2).1,(mv h h1 h2).2,?_,ho⟩)
    rw [List.length_drop,List.length_take];have e:Int.toNat (j:Int)=j:=rfl;rw [e];omega
   rw [zEP];refine Wp.lt (i:=j) (fun hlt=>Wp.ite (fun hm=>?_) fun _=>fin) fun _=>fin
   show Wp (bd (ixN p.s (Int.ofNat j)) _) _
   rw [zAW hlt];rw [zN (by omega) (by omega)] at hm
   refine wk_b (zIE _) fun b hb=>Wp.if (fun ht=>?_) fun _=>fin
   rw [zEO,zN (by omega) (by omega)]
   refine ih _ (by omega) (by omega) (by omega) (by omega) ?_
   have hjl:j<p.s.length:=by simpa using hlt
   exact zLZ hjl (by omega) ho (hb (p.h8 _ (List.getElem_mem hjl)) ht)
 rw [zFw];exact loop _ _ (Int.le_refl _) h.i1 (by omega) (by have:=h.i0;have:=z0 (n:=1025) (by omega);omega) (fun c hc=>by rw [List.drop_eq_nil_of_le (by rw [List.length_take];omega)] at hc;cases hc)
theorem zO3 (m:Int) (m0:0<=m) (m1:m<=1000) (p:PS) (h:Inv p):Wp (zA6 m p.s p.i p.dp p.n p.e p.fa p.l) fun v=>∃t q,v=outS (.str t) q/\Inv q/\Stp 0 p q/\((t.length:Int)<=m/\okS t):=by
 have big:=h.big;have loop:∀(n:Nat) (i:Int),p.i<=i->i<=p.s.length->i-p.i<=m->p.s.length-i<n->okS (List.drop (Int.toNat p.i) (List.take (Int.toNat i) p.s))->Wp (zAa n m p.i p.s i p.dp p.n p.e p.fa p.l) fun v=>∃t q,v=outS (.str t) q/\Inv q/\Stp 0 p q/\((t.length:Int)<=m/\okS t):=by
  intro n
  induction n with
  | zero=>intro i _ _ _ h;omega
  | succ n ih=>
   intro i h1 h2 h3 hn ho;have i0:=h.i0;obtain ⟨j,rfl⟩:=Int.eq_ofNat_of_zero_le (Int.le_trans i0 h1);have fin:Wp (gd (decide (0<=p.i/\p.i<=(j:Int)/\(j:Int)<=Int.ofNat p.s.length)) (some (AV.str (List.drop (Int.toNat p.i) (List.take (Int.toNat (j:Int)) p.s)),[(0,HO.cells false [.str p.s,.int .i64 (j:Int),.int .i64 p.dp,.int .i64 p.n,AV.sym 0,.int .i64 p.e,.int .i64 p.fa])],[(0,VI.vec 6 p.l)]))) fun v=>∃t q,v=outS (.str t) q/\Inv q/\Stp 0 p q/\((t.length:Int)<=m/\okS t):=by
    refine Wp.gd ⟨i0,h1,h2⟩ (Wp.mk ⟨_,{ p with i:=(j:Int) },rfl,(mv h h1 h2).1,(mv h h1 h2).2,?_,ho⟩)
    rw [List.length_drop,List.length_take];have e:Int.toNat (j:Int)=j:=rfl;rw [e];omega
   rw [zEV];refine Wp.lt (i:=j) (fun hlt=>Wp.ite (fun hm=>?_) fun _=>fin) fun _=>fin
   show Wp (bd (ixN p.s (Int.ofNat j)) _) _
   rw [zAW hlt];rw [zN (by omega) (by omega)] at hm
   refine wk_b (zUE _) fun b hb=>Wp.if (fun ht=>?_) fun _=>fin
   rw [zEU,zN (by omega) (by omega)]
   refine ih _ (by omega) (by omega) (by omega) (by omega) ?_
   have hjl:j<p.s.length:=by simpa using hlt
   exact zLZ hjl (by omega) ho (hb (p.h8 _ (List.getElem_mem hjl)) ht)
 rw [zFN];exact loop _ _ (Int.le_refl _) h.i1 (by omega) (by have:=h.i0;have:=z0 (n:=1025) (by omega);omega) (fun c hc=>by rw [List.drop_eq_nil_of_le (by rw [List.length_take];omega)] at hc;cases hc)
end Go.Proofs.YtdeeimaahdgeaaaGreatDoor.spec
namespace Go.Proofs.YtdeeimaahdgeaaaGreatDoor.spec
open Go Go.Sy
variable [MX]
theorem zLE (s:List Nat) (h:s.length<=1000):Wp (zFm s) fun v=>∃n,v=.int .i64 n/\(-9223372036854775808<=n/\n<=9223372036854775807):=by
 rw [zL9];obtain ⟨n,v,e,h0,h1⟩:=zO2 s h;exact zUA e (Wp.mk ⟨n,rfl,h0,h1⟩)
theorem zP7 (p:PS) (h:Inv p):Wp (zCG p.s p.i p.dp p.n p.e p.fa p.l) fun v=>∃t q,v=outS (.str t) q/\Inv q/\Stp 0 p q/\tx 32 t:=by
 rw [zJj];refine wdU (zEc p h) fun q hq=>wdS (zPD (Int.ofNat 32) (by decide) (by decide) q hq.1) fun t r hr=>?_
 have hl:tx 32 t:=⟨by have:=hr.2.2.1;rw [Int.ofNat_eq_natCast] at this;omega,hr.2.2.2⟩
 refine Wp.if (fun _=>wdU (zCN _ _ (by decide) r hr.1.z) fun u hu=>Wp.mk ⟨t,u,rfl,hu.1,?_,hl⟩) fun _=>Wp.mk ⟨t,r,rfl,hr.1,hq.2.1.trans0 hr.2.1,hl⟩
 have:=hq.2.1.trans0 hr.2.1;exact .bad (hu.2.1.trans this.s) (by rw [hu.2.2.1];exact this.i) hu.2.2.2
theorem zNQ (p:PS) (h:Inv p):Wp (zBV p.s p.i p.dp p.n p.e p.fa p.l) fun v=>∃x q,v=outS (.int .i64 x) q/\Inv q/\Stp 0 p q/\(-9223372036854775808<=x/\x<=9223372036854775807):=by
 rw [zHZ];refine wdU (zEc p h) fun q hq=>wdS (zO3 (Int.ofNat 12) (by decide) (by decide) q hq.1) fun t r hr=>?_
 have hl:t.length<=1000:=by have:=hr.2.2.1;rw [Int.ofNat_eq_natCast] at this;omega
 refine Wp.if (fun _=>wdU (zCN _ _ (by decide) r hr.1.z) fun u hu=>wk_i (zLE t hl) fun x hx=>Wp.mk ⟨x,u,rfl,hu.1,?_,hx⟩) fun _=>wk_i (zLE t hl) fun x hx=>Wp.mk ⟨x,r,rfl,hr.1,hq.2.1.trans0 hr.2.1,hx⟩
 have:=hq.2.1.trans0 hr.2.1;exact .bad (hu.2.1.trans this.s) (by rw [hu.2.2.1];exact this.i) hu.2.2.2
def Post (p:PS) (v:AV×Heap×Vecs):Prop:=∃x q,v=outS (.int .i64 x) q/\Inv q/\Stp 0 p q/\Res p q x
theorem Post.bad {p q:PS} (hi:Inv q) (hs:q.s=p.s) (hle:p.i<=q.i) (hn:¬q.nf) (x:Int):Post p (outS (.int .i64 x) q):=⟨x,q,rfl,hi,.bad hs hle hn,fun h=>absurd h hn⟩
theorem Res.of {a:Int} {p q r:PS} {x:Int} (h:Stp a p q) (k:Res q r x) (hs:Stp (-1) q r):Res p r x:=fun hr=>by
 obtain ⟨k1,k2⟩:=k hr;have:=(h.nf (hs.nf hr).1).2.2.2;exact ⟨k1,by omega⟩
theorem zNb (p q:PS) (hp:Inv p) (hq:Inv q) (h:Stp 1 p q) (k:Int) (s t:List Nat) (n a b:Int) (hw:q.nf->WFn q.l.length (nd6 k s t n a b)):Wp (zY k s t n a b q.s q.i q.dp q.n q.e q.fa q.l) (Post p):=by
 refine (zP6 q hq k s t n a b (fun hn=>?_) hw).mono fun v hv=>?_
 ·obtain ⟨p1,p2,p3,p4⟩:=h.nf hn;have:=(hp.ok p1).2.2.1;omega
 ·obtain ⟨x,r,rfl,h1,h2,h3⟩:=hv;exact ⟨x,r,rfl,h1,h.trans h2,Res.of h h3 h2⟩
theorem WFn.leaf {j:Nat} {k n:Int} {s t:List Nat} (hn:-9223372036854775808<=n/\n<=9223372036854775807) (hs:tx 24 s) (ht:tx 32 t) (h:k<=6):WFn j (nd6 k s t n (Int.negSucc 0) (Int.negSucc 0)):=⟨k,s,t,n,_,_,rfl,hn,hs,ht,fun e=>by omega,fun e=>by omega⟩
theorem zHj (p q:PS) (hp:Inv p) (hq:Inv q) (h:Stp 1 p q) (k:Int) (s t:List Nat) (n:Int) (hn:-9223372036854775808<=n/\n<=9223372036854775807) (hs:tx 24 s) (ht:tx 32 t) (hk:k<=6):Wp (zS q.s q.i q.dp q.n q.e q.fa k s t n (Int.negSucc 0) (Int.negSucc 0) q.l) (Post p):=by
 rw [zHN];refine wdI (R:=fun x r=>Inv r/\Stp 0 p r/\Res p r x) ((zNb p q hp hq h k s t n _ _ fun _=>WFn.leaf hn hs ht hk).mono fun v hv=>?_) fun x r hr=>Wp.mk ⟨x,r,rfl,hr⟩
 obtain ⟨x,r,rfl,hr⟩:=hv;exact ⟨x,r,rfl,hr⟩
theorem zNc (p q:PS) (hp:Inv p) (hq:Inv q) (h:Stp 1 p q) (b:Bool) (k:Int) (s t:List Nat) (n:Int) (hn:-9223372036854775808<=n/\n<=9223372036854775807) (hs:tx 24 s) (ht:tx 32 t) (hk:k<=6):Wp (zAC b q.s q.i q.dp q.n q.e q.fa k s t n (Int.negSucc 0) (Int.negSucc 0) q.l) (Post p):=by
 rw [zHO];refine Wp.if (fun _=>wdU (zCN _ _ (by decide) q hq.z) fun r hr=>zHj p r hp hr.1 (.bad (hr.2.1.trans h.s) (by rw [hr.2.2.1];exact h.i) hr.2.2.2) k s t n hn hs ht hk) fun _=>zHj p q hp hq h k s t n hn hs ht hk
theorem z64:(-9223372036854775808:Int)<=Int.ofNat 0/\Int.ofNat 0<=(9223372036854775807:Int):=by decide
theorem zUF (p q:PS) (hp:Inv p) (hq:Inv q) (h:Stp 0 p q) (i:Int) (s:List Nat) (hs:tx 24 s):Wp (zC3 i s q.s q.i q.dp q.n q.e q.fa q.l) (Post p):=by
 rw [zHP];refine wdU (zHE i q hq) fun r hr=>?_
 have st:Stp 1 p r:=h.trans0 hr.2.1;have nx:∀{u v:PS},Stp 1 p u->Stp 0 u v->Stp 1 p v:=fun a b=>a.trans b
 refine wdB (zFk r hr.1 _ (by decide)) fun b u hu=>Wp.if (fun _=>wdS (zP7 u hu.1) fun t v hv=>zHj p v hp hv.1 (nx (nx st hu.2.1) hv.2.1) _ s t _ z64 hs hv.2.2 (by decide)) fun _=>?_
 have st:=nx st hu.2.1;refine wdB (zFk u hu.1 _ (by decide)) fun b r hr=>Wp.if (fun _=>wdI (zNQ r hr.1) fun t v hv=>zHj p v hp hv.1 (nx (nx st hr.2.1) hv.2.1) _ s [] _ hv.2.2 hs (zC0 _) (by decide)) fun _=>?_
 have st:=nx st hr.2.1;refine wdB (zFk r hr.1 _ (by decide)) fun b u hu=>Wp.if (fun _=>wdI (zNQ u hu.1) fun t v hv=>zHj p v hp hv.1 (nx (nx st hu.2.1) hv.2.1) _ s [] _ hv.2.2 hs (zC0 _) (by decide)) fun _=>?_
 have st:=nx st hu.2.1;refine wdB (zFk u hu.1 _ (by decide)) fun b r hr=>Wp.if (fun _=>wdS (zP7 r hr.1) fun t v hv=>zHj p v hp hv.1 (nx (nx st hr.2.1) hv.2.1) _ s t _ z64 hs hv.2.2 (by decide)) fun _=>?_
 have st:=nx st hr.2.1;refine wdB (zFk r hr.1 _ (by decide)) fun b u hu=>Wp.if (fun _=>zNc p u hp hu.1 (nx st hu.2.1) _ _ s [] _ z64 hs (zC0 _) (by decide)) fun _=>?_
 have st:=nx st hu.2.1;refine wdB (zFk u hu.1 _ (by decide)) fun b r hr=>Wp.if (fun _=>zNc p r hp hr.1 (nx st hr.2.1) _ _ s [] _ z64 hs (zC0 _) (by decide)) fun _=>?_
 have st:=nx st hr.2.1;exact wdB (zFk r hr.1 _ (by decide)) fun b u hu=>zNc p u hp hu.1 (nx st hu.2.1) _ _ s [] _ z64 hs (zC0 _) (by decide)
theorem zP8 (p q:PS) (hp:Inv p) (hq:Inv q) (h:Stp 0 p q) (i:Int) (s:List Nat) (b:Bool) (hs:tx 24 s):Wp (zBx i s b q.s q.i q.dp q.n q.e q.fa q.l) (Post p):=by
 rw [zHQ];exact Wp.if (fun _=>wdU (zCN _ _ (by decide) q hq.z) fun r hr=>Wp.mk (.bad hr.1 (hr.2.1.trans h.s) (by rw [hr.2.2.1];exact h.i) hr.2.2.2 _)) fun _=>zUF p q hp hq h i s hs
theorem zUG (p q:PS) (hp:Inv p) (hq:Inv q) (h:Stp 0 p q) (i:Int) (s:List Nat) (hs:tx 24 s):Wp (zC4 i s q.s q.i q.dp q.n q.e q.fa q.l) (Post p):=by
 rw [zHR];refine Wp.ite (fun hlt=>?_) fun _=>zP8 p q hp hq h i s _ hs
 obtain ⟨x,hx,_⟩:=zOW hq.i0 hlt;rw [hx];exact wk_b (zIE x) fun b _=>zP8 p q hp hq h i s _ hs
theorem zNd (p q:PS) (hp:Inv p) (hq:Inv q) (h:Stp 0 p q) (i:Int) (s:List Nat) (b:Bool) (hs:tx 24 s):Wp (zAD i s b q.s q.i q.dp q.n q.e q.fa q.l) (Post p):=by
 rw [zHV];refine Wp.if (fun _=>wdU (zHE i q hq) fun r hr=>wdI (R:=fun x r=>Inv r/\Stp 0 p r/\Res p r x) ((zNb p r hp hr.1 (h.trans0 hr.2.1) _ _ _ _ _ _ fun _=>WFn.leaf z64 (zC0 _) (zC0 _) (by decide)).mono fun v hv=>?_) fun x r hr=>Wp.mk ⟨x,r,rfl,hr⟩) fun _=>zUG p q hp hq h i s hs
 obtain ⟨x,r,rfl,hr⟩:=hv;exact ⟨x,r,rfl,hr⟩
theorem zUH (p:PS) (hp:Inv p) (i:Int):Wp (zC5 i p.s p.i p.dp p.n p.e p.fa p.l) (Post p):=by
 rw [zHS];refine wdS (zPC (Int.ofNat 24) (by decide) (by decide) p hp) fun t q hq=>?_
 have hl:tx 24 t:=⟨by have:=hq.2.2.1;rw [Int.ofNat_eq_natCast] at this;omega,hq.2.2.2⟩
 refine Wp.if (fun _=>Wp.ite (fun hlt=>?_) fun _=>zNd p q hp hq.1 hq.2.1 i t _ hl) fun _=>zNd p q hp hq.1 hq.2.1 i t _ hl
 obtain ⟨x,hx,_⟩:=zOW hq.1.i0 hlt;rw [hx];exact wk_b (zIE x) fun b _=>zNd p q hp hq.1 hq.2.1 i t _ hl
theorem zNe (p:PS) (hp:Inv p) (i:Int) (b:Bool):Wp (zAE i b p.s p.i p.dp p.n p.e p.fa p.l) (Post p):=by
 rw [zHT];exact Wp.if (fun _=>wdU (zCN _ _ (by decide) p hp.z) fun r hr=>Wp.mk (.bad hr.1 hr.2.1 (by rw [hr.2.2.1];exact Int.le_refl _) hr.2.2.2 _)) fun _=>zUH p hp i
theorem zUI (p:PS) (hp:Inv p):Wp (zEg p.s p.i p.dp p.n p.e p.fa p.l) (Post p):=by
 rw [zJk];refine Wp.if (fun _=>zNe p hp _ _) fun hne=>?_
 have hlt:p.i<Int.ofNat p.s.length:=by
  have h1:=hp.i1;have h2:¬p.i=Int.ofNat p.s.length:=by simpa using hne
  rw [Int.ofNat_eq_natCast] at h2 ⊢;omega
 obtain ⟨x,hx,_⟩:=zOW hp.i0 hlt;rw [hx];exact Wp.if (fun _=>zNe p hp _ _) fun _=>zNe p hp _ _
end Go.Proofs.YtdeeimaahdgeaaaGreatDoor.spec
namespace Go.Proofs.YtdeeimaahdgeaaaGreatDoor.spec
open Go Go.Sy
variable [MX]
noncomputable def PS.m (p:PS):Nat:=(Classical.propDecidable p.nf).casesOn (fun _=>0) fun _=>(33-p.dp).toNat
theorem m_nf {p:PS} (h:p.nf):p.m=(33-p.dp).toNat:=by
 unfold PS.m;cases Classical.propDecidable p.nf with
 | isTrue _=>rfl
 | isFalse h'=>exact absurd h h'
theorem zTC {p:PS} (h:¬p.nf):p.m=0:=by
 unfold PS.m;cases Classical.propDecidable p.nf with
 | isTrue h'=>exact absurd h' h
 | isFalse h'=>rfl
theorem Stp.m {k:Int} {p q:PS} (h:Stp k p q):q.m<=p.m:=by
 by_cases hn:q.nf
 ·obtain ⟨h1,h2,_⟩:=h.nf hn;rw [m_nf hn,m_nf h1,h2];exact Nat.le_refl _
 ·rw [zTC hn];exact Nat.zero_le _
theorem Stp.m0 {k:Int} {p q:PS} (h:Stp k p q) (hp:Inv p) {b:Bool} {r:PS} (hi:In b q r):5*r.m+5<=5*p.m\/¬p.nf:=by
 by_cases hn:r.nf
 ·obtain ⟨_,h1,h2,_⟩:=hi.nf hn;obtain ⟨h3,h4,_⟩:=h.nf h1;have:=hp.ok h3;rw [m_nf hn,m_nf h3]
  left
  omega
 ·by_cases hp':p.nf
  ·rw [zTC hn,m_nf hp'];have:=hp.ok hp'
   left
   omega
  ·exact .inr hp'
def SpN (d:Nat):Prop:=∀p,Inv p->5*p.m+1<=d->Wp (zBO d p.s p.i p.dp p.n p.e p.fa p.l) (Post p)
def SpPN (d:Nat):Prop:=∀p (t:List Nat) (k:Int),Inv p->5*p.m+2<=d->1<=t.length->t.length<=2->k=8\/k=9->Wp (zAo d t k p.s p.i p.dp p.n p.e p.fa p.l) (Post p)
def SpA (d:Nat):Prop:=∀p,Inv p->5*p.m+3<=d->Wp (zCV d p.s p.i p.dp p.n p.e p.fa p.l) (Post p)
def SpPA (d:Nat):Prop:=∀p (t:List Nat) (k:Int),Inv p->5*p.m+4<=d->1<=t.length->t.length<=2->k=8\/k=9->Wp (zAn d t k p.s p.i p.dp p.n p.e p.fa p.l) (Post p)
def SpO (d:Nat):Prop:=∀p,Inv p->5*p.m+5<=d->Wp (zDq d p.s p.i p.dp p.n p.e p.fa p.l) (Post p)
theorem Post.out {p:PS} {o:Option (AV×Heap×Vecs)} (h:Wp o (Post p)):Wp o fun v=>∃x q,v=outS (.int .i64 x) q/\(Inv q/\Stp 0 p q/\Res p q x):=h
theorem WFn.two {p q r:PS} {k x y:Int} (hk:k=8\/k=9) (hx:q.nf->x=(q.l.length:Int)-1/\p.l.length<q.l.length) (hy:r.nf->y=(r.l.length:Int)-1/\q.l.length<r.l.length) (h:r.nf->q.nf) (hr:r.nf):WFn r.l.length (nd6 k [] [] (Int.ofNat 0) x y):=by
 obtain ⟨x1,x2⟩:=hx (h hr);obtain ⟨y1,y2⟩:=hy hr;refine ⟨k,[],[],_,_,_,rfl,z64,zC0 _,zC0 _,fun e=>by omega,fun _=>⟨q.l.length-1,r.l.length-1,?_,?_,by omega,by omega⟩⟩
 ·rw [Int.ofNat_eq_natCast];omega
 ·rw [Int.ofNat_eq_natCast];omega
theorem zO4 (p q:PS) (hp:Inv p) (hq:Inv q) (h:Stp 1 p q) (k:Int) (s t:List Nat) (n a b:Int) (hw:q.nf->WFn q.l.length (nd6 k s t n a b)):Wp (zY k s t n a b q.s q.i q.dp q.n q.e q.fa q.l) fun v=>∃x r,v=outS (.int .i64 x) r/\(Inv r/\Stp 0 p r/\Res p r x)/\Stp (-1) q r:=by
 refine (zP6 q hq k s t n a b (fun hn=>?_) hw).mono fun v hv=>?_
 ·obtain ⟨p1,p2,p3,p4⟩:=h.nf hn;have:=(hp.ok p1).2.2.1;omega
 ·obtain ⟨x,r,rfl,h1,h2,h3⟩:=hv;exact ⟨x,r,rfl,⟨h1,h.trans h2,Res.of h h3 h2⟩,h2⟩
theorem zRX {d:Nat} (hN:SpN d):SpPN (d+1):=by
 intro p t k hp hd t1 t2 hk;have loop:∀(n:Nat) (q:PS) (x:Int),Inv q->Stp 0 p q->Res p q x->q.s.length-q.i<n->Wp (zR d n t k x q.s q.i q.dp q.n q.e q.fa q.l) (Post p):=by
  intro n
  induction n with
  | zero=>intro q x hq _ _ h;have:=hq.i1;omega
  | succ n ih=>
   intro q x hq st hx hn;rw [zDb];refine Wp.if (fun _=>?_) fun _=>Wp.mk ⟨x,q,rfl,hq,st,hx⟩
   refine wdU (zEc q hq) fun q1 h1=>wdB (zFk q1 h1.1 t t2) fun b q2 h2=>?_
   have s2:=h1.2.1.trans0 h2.2.1;have l2:q2.l=q.l:=h2.2.2.2.trans h1.2.2;have x2:Res p q2 x:=fun hn2=>by rw [l2];exact hx (s2.nf hn2).1
   refine Wp.if (fun _=>Wp.mk ⟨x,q2,rfl,h2.1,st.trans0 s2,x2⟩) fun hb=>?_
   have hb:b=true:=by simpa using hb
   have adv:=h2.2.2.1 hb;refine wdU (zHE q1.i q2 h2.1) fun q3 h3=>?_
   have s3:=(st.trans0 s2).trans0 h3.2.1;have m3:=s3.m;refine wdI (Post.out (hN q3 h3.1 (by omega))) fun y q4 h4=>?_
   have s4:Stp 1 p q4:=s3.trans h4.2.1;refine wdI ((zO4 p q4 hp h4.1 s4 k [] [] _ x y fun h4n=>WFn.two (p:=p) (q:=q2) (r:=q4) hk x2 (fun hr=>?_) (fun hr=>(h3.2.1.nf (h4.2.1.nf hr).1).1) h4n)) fun z q5 h5=>ih q5 z h5.1.1 h5.1.2.1 h5.1.2.2 ?_
   ·have:=h4.2.2 hr;rw [h3.2.2 (h4.2.1.nf hr).1] at this;exact this
   ·have e1:=((s2.trans0 h3.2.1).trans h4.2.1).trans h5.2;have:=h1.2.1.i;have:=h3.2.1.i;have:=h4.2.1.i;have:=h5.2.i;have:q5.s.length=q.s.length:=congrArg List.length e1.s;omega
 rw [zDS];refine wdI (Post.out (hN p hp (by omega))) fun x q hq=>loop _ q x hq.1 hq.2.1 hq.2.2 ?_
 have:=hq.1.i0;have:=hq.1.big;have:=z0 (n:=1025) (by omega);omega
theorem zRY {d:Nat} (hN:SpA d):SpPA (d+1):=by
 intro p t k hp hd t1 t2 hk;have loop:∀(n:Nat) (q:PS) (x:Int),Inv q->Stp 0 p q->Res p q x->q.s.length-q.i<n->Wp (zQ d n t k x q.s q.i q.dp q.n q.e q.fa q.l) (Post p):=by
  intro n
  induction n with
  | zero=>intro q x hq _ _ h;have:=hq.i1;omega
  | succ n ih=>
   intro q x hq st hx hn;rw [zDa];refine Wp.if (fun _=>?_) fun _=>Wp.mk ⟨x,q,rfl,hq,st,hx⟩
   refine wdU (zEc q hq) fun q1 h1=>wdB (zFk q1 h1.1 t t2) fun b q2 h2=>?_
   have s2:=h1.2.1.trans0 h2.2.1;have l2:q2.l=q.l:=h2.2.2.2.trans h1.2.2;have x2:Res p q2 x:=fun hn2=>by rw [l2];exact hx (s2.nf hn2).1
   refine Wp.if (fun _=>Wp.mk ⟨x,q2,rfl,h2.1,st.trans0 s2,x2⟩) fun hb=>?_
   have hb:b=true:=by simpa using hb
   have adv:=h2.2.2.1 hb;refine wdU (zHE q1.i q2 h2.1) fun q3 h3=>?_
   have s3:=(st.trans0 s2).trans0 h3.2.1;have m3:=s3.m;refine wdI (Post.out (hN q3 h3.1 (by omega))) fun y q4 h4=>?_
   have s4:Stp 1 p q4:=s3.trans h4.2.1;refine wdI ((zO4 p q4 hp h4.1 s4 k [] [] _ x y fun h4n=>WFn.two (p:=p) (q:=q2) (r:=q4) hk x2 (fun hr=>?_) (fun hr=>(h3.2.1.nf (h4.2.1.nf hr).1).1) h4n)) fun z q5 h5=>ih q5 z h5.1.1 h5.1.2.1 h5.1.2.2 ?_
   ·have:=h4.2.2 hr;rw [h3.2.2 (h4.2.1.nf hr).1] at this;exact this
   ·have e1:=((s2.trans0 h3.2.1).trans h4.2.1).trans h5.2;have:=h1.2.1.i;have:=h3.2.1.i;have:=h4.2.1.i;have:=h5.2.i;have:q5.s.length=q.s.length:=congrArg List.length e1.s;omega
 rw [zDR];refine wdI (Post.out (hN p hp (by omega))) fun x q hq=>loop _ q x hq.1 hq.2.1 hq.2.2 ?_
 have:=hq.1.i0;have:=hq.1.big;have:=z0 (n:=1025) (by omega);omega
theorem zVG {d:Nat} (h:SpPN d):SpA (d+1):=by
 intro p hp hd;rw [zJN];exact wdI (Post.out (h p _ _ hp (by omega) (by decide) (by decide) (.inl rfl))) fun x q hq=>Wp.mk ⟨x,q,rfl,hq⟩
theorem zV9 {d:Nat} (h:SpPA d):SpO (d+1):=by
 intro p hp hd;rw [zJ6];exact wdI (Post.out (h p _ _ hp (by omega) (by decide) (by decide) (.inr rfl))) fun x q hq=>Wp.mk ⟨x,q,rfl,hq⟩
theorem up {p q r u:PS} {b:Bool} {k:Int} (hq:Inv q) (h:Stp 0 p q) (hi:In b q r) (hs:Stp k r u) (hu:Inv u):Inv { u with dp:=wrapx .i64 (u.dp-1) }/\Stp k p { u with dp:=wrapx .i64 (u.dp-1) }/\(u.nf->q.l=r.l):=by
 refine ⟨⟨hu.i0,hu.i1,hu.big,fun hn=>?_⟩,⟨hs.s.trans (hi.s.trans h.s),?_,fun hn=>?_⟩,fun hn=>(hi.nf (hs.nf hn).1).2.2.2.2.symm⟩
 ·have hn:u.nf:=hn;obtain ⟨d0,d1,x⟩:=hu.ok hn;obtain ⟨e1,e2,_⟩:=hs.nf hn;obtain ⟨_,f1,f2,_⟩:=hi.nf e1;have:=(hq.ok f1).1;refine ⟨?_,?_,x⟩
  ·show 0<=wrapx .i64 (u.dp-1)
   rw [zN (by omega) (by omega)];omega
  ·show wrapx .i64 (u.dp-1)<=32
   rw [zN (by omega) (by omega)];omega
 ·have:=hs.i;have:=hi.i;have:=h.i;show p.i<=u.i
  omega
 ·have hn:u.nf:=hn;obtain ⟨d0,d1,x⟩:=hu.ok hn;obtain ⟨e1,e2,e3,e4⟩:=hs.nf hn;obtain ⟨_,f1,f2,f3,f4⟩:=hi.nf e1;obtain ⟨g1,g2,g3,g4⟩:=h.nf f1;refine ⟨g1,?_,?_,?_⟩
  ·show wrapx .i64 (u.dp-1)=p.dp
   rw [zN (by omega) (by omega)];omega
  ·show u.n-u.l.length=_
   rw [e3,f3,f4,g3];omega
  ·show p.l.length<=u.l.length
   rw [f4] at e4;omega
theorem Res.tr {a b:Int} {p q r:PS} {x:Int} (h:Stp a p q) (k:Res q r x) (hs:Stp b q r):Res p r x:=fun hr=>by
 obtain ⟨k1,k2⟩:=k hr;have:=(h.nf (hs.nf hr).1).2.2.2;exact ⟨k1,by omega⟩
theorem Post.tr {p q:PS} (h:Stp 0 p q) {v:AV×Heap×Vecs} (k:Post q v):Post p v:=by
 obtain ⟨x,r,rfl,h1,h2,h3⟩:=k;exact ⟨x,r,rfl,h1,h.trans0 h2,Res.tr h h3 h2⟩
theorem zRZ {d:Nat} (p q:PS) (x:Int) (b:Bool) (hq:Inv q) (hs:Stp 0 p q) (hr:Res p q x):Wp (zBW d x b q.s q.i q.dp q.n q.e q.fa q.l) (Post p):=by
 rw [zH0];refine Wp.if (fun _=>wdU (zCN _ _ (by decide) q hq.z) fun r h=>?_) fun _=>?_
 ·rw [zES];exact Wp.mk (.bad h.1 (h.2.1.trans hs.s) (by rw [h.2.2.1];exact hs.i) h.2.2.2 _)
 ·rw [zES];exact Wp.mk ⟨x,q,rfl,hq,hs,hr⟩
theorem In.i' {b:Bool} {p q r:PS} (h:Stp 0 p q) (k:In b q r):r.s=p.s/\p.i<=r.i:=⟨k.s.trans h.s,by rw [k.i];exact h.i⟩
theorem zVH {d:Nat} (hN:SpN d) (hO:SpO d):SpN (d+1):=by
 intro p hp hd;rw [zJO];refine wdU (zEc p hp) fun q hq=>Wp.if (fun hn=>?_) fun hn=>?_
 ·have hn:¬q.nf:=zL0 hn;exact Wp.mk (.bad hq.1 hq.2.1.s hq.2.1.i hn _)
 have hn:q.nf:=zI4 hn;have pn:=(hq.2.1.nf hn).1;refine wdB (zFk q hq.1 _ (by decide)) fun b q1 h1=>?_
 have s1:=hq.2.1.trans0 h1.2.1;refine Wp.if (fun _=>?_) fun _=>?_
 ·refine wdB (zTB q.i q1 h1.1) fun b1 q2 h2=>?_
  have m2:=(s1.m0 hp h2.2).resolve_right (fun h=>h pn)
  obtain ⟨es,ei⟩:=In.i' s1 h2.2;refine Wp.if (fun hb=>Wp.mk (.bad h2.1 es ei (fun hn2=>?_) _)) fun _=>?_
  ·rw [(h2.2.nf hn2).1] at hb;cases hb
  refine wdU (zHE q.i q2 h2.1) fun q3 h3=>?_
  have m3:=h3.2.1.m;refine wdI (Post.out (hN q3 h3.1 (by omega))) fun y q4 h4=>?_
  obtain ⟨u1,u2,_⟩:=up h1.1 s1 h2.2 (h3.2.1.trans h4.2.1) h4.1;refine wdI (Post.out (zNb p _ hp u1 u2 (Int.ofNat 7) [] [] (Int.ofNat 0) y (Int.negSucc 0) fun h4n=>?_)) fun z q5 h5=>Wp.mk ⟨z,q5,rfl,h5⟩
  obtain ⟨y1,y2⟩:=h4.2.2 h4n;refine ⟨7,[],[],_,_,_,rfl,z64,zC0 _,zC0 _,fun _=>⟨q4.l.length-1,?_,?_⟩,fun e=>by omega⟩
  ·rw [Int.ofNat_eq_natCast];omega
  ·show q4.l.length-1<q4.l.length
   omega
 ·refine wdB (zFk q1 h1.1 _ (by decide)) fun b1 q2 h2=>?_
  have s2:=s1.trans0 h2.2.1;refine Wp.if (fun _=>?_) fun _=>?_
  ·refine wdB (zTB q.i q2 h2.1) fun b2 q3 h3=>?_
   have m2:=(s2.m0 hp h3.2).resolve_right (fun h=>h pn)
   obtain ⟨es,ei⟩:=In.i' s2 h3.2;refine Wp.if (fun hb=>Wp.mk (.bad h3.1 es ei (fun hn2=>?_) _)) fun _=>?_
   ·rw [(h3.2.nf hn2).1] at hb;cases hb
   refine wdI (Post.out (hO q3 h3.1 (by omega))) fun x q4 h4=>?_
   obtain ⟨u1,u2,u3⟩:=up h2.1 s2 h3.2 h4.2.1 h4.1;have hr:Res p { q4 with dp:=wrapx .i64 (q4.dp-1) } x:=fun hn4=>by
    obtain ⟨y1,y2⟩:=h4.2.2 hn4;refine ⟨y1,?_⟩
    have e:=u3 hn4;have:=((s2.nf (h3.2.nf (h4.2.1.nf hn4).1).2.1)).2.2.2;rw [e] at this;show p.l.length<q4.l.length
    omega
   refine Wp.if (fun _=>wdB (zFk { q4 with dp:=wrapx .i64 (q4.dp-1) } u1 _ (by decide)) fun b3 q5 h5=>zRZ p q5 x _ h5.1 (u2.trans0 h5.2.1) fun hn5=>?_) fun _=>zRZ p { q4 with dp:=wrapx .i64 (q4.dp-1) } x _ u1 u2 hr
   rw [h5.2.2.2];exact hr (h5.2.1.nf hn5).1
  ·exact wdI (Post.out ((zUI q2 h2.1).mono fun v hv=>Post.tr s2 hv)) fun x q3 h3=>Wp.mk ⟨x,q3,rfl,h3⟩
theorem zeros:SpN 0/\SpPN 0/\SpA 0/\SpPA 0/\SpO 0:=⟨fun p _ h=>by omega,fun p _ _ _ h=>by omega,fun p _ h=>by omega,fun p _ _ _ h=>by omega,fun p _ h=>by omega⟩
theorem zQL (d:Nat):SpN d/\SpPN d/\SpA d/\SpPA d/\SpO d:=by
 induction d with
 | zero=>exact zeros
 | succ d ih=>exact ⟨zVH ih.1 ih.2.2.2.2,zRX ih.1,zVG ih.2.1,zRY ih.2.2.1,zV9 ih.2.2.2.1⟩
end Go.Proofs.YtdeeimaahdgeaaaGreatDoor.spec
namespace Go.Proofs.YtdeeimaahdgeaaaGreatDoor.spec
open Go Go.Sy
variable [MX]
theorem TL.at {es:List AV} {L:Nat->Nat} {m j:Nat} (h:TL es L m) (hj:j<m):∃k s t n l r,ixN es (Int.ofNat j)=some (nd6 k s t n l r)/\(-9223372036854775808<=n/\n<=9223372036854775807)/\s.length+t.length+24<=L j/\L j<=topL ∧
 (k=7->∃a:Nat,l=Int.ofNat a/\a<j/\L a+3<=L j)/\(k=8\/k=9->∃a b:Nat,l=Int.ofNat a/\r=Int.ofNat b/\a<j/\b<j/\L a+L b+7<=L j):=h j hj
abbrev isT (m:Nat) (v:AV):Prop:=∃t,v=.str t/\(t.length<=m/\okS t)
abbrev NC (es:List AV):Prop:=∀(j:Nat) k s t n l r,es[j]? = some (nd6 k s t n l r)->okS s/\okS t
theorem zDO {l:List Nat} (h:l.all (fun c=>decide (okQ' c))=true):okS l:=fun c hc=>of_decide_eq_true (List.all_eq_true.1 h c hc)
theorem zVI {d:Nat} {es:List AV} {L:Nat->Nat} {m a:Nat} (h:TL es L m) (ha:a<m) (hd:Wp (zBf d es (Int.ofNat a)) (isT (L a))) (least:Int):Wp (zAT (d+1) (Int.ofNat a) least es) (isT (L a+2)):=by
 rw [zMa];obtain ⟨k,s,t,n,l,r,he,_,_,ht,_⟩:=h.at ha;refine wk_s hd fun u hu=>zB2 he ?_
 have:∃x,zF5 k=some (.int .i64 x):=by
  have:Wp (zF5 k) isE:=by
   rw [zMX]
   repeat' first | refine Wp.if (fun _=>?_) (fun _=>?_) | exact Wp.mk ⟨_,rfl,trivial⟩
  obtain ⟨v,e,x,rfl,_⟩:=this;exact ⟨x,e⟩
 obtain ⟨x,hx⟩:=this;refine qk_i hx (Wp.ite (fun _=>Wp.gd ?_ (Wp.gd ?_ (Wp.mk ⟨_,rfl,?_,zAN (zAN (zDO rfl) hu.2) (zDO rfl)⟩))) fun _=>Wp.mk ⟨_,rfl,by omega,hu.2⟩)
 all_goals simp only [List.length_append,List.length_cons,List.length_nil]
 all_goals unfold topL at ht
 all_goals first | omega | (unfold zf;omega)
theorem zUJ {es:List AV} {L:Nat->Nat} {m:Nat} (h:TL es L m) (hN:NC es):∀(d j:Nat),2*j+1<=d->j<m->Wp (zBf d es (Int.ofNat j)) (isT (L j)):=by
 intro d
 induction d using Nat.strongRecOn with
 | _ d ih=>
  intro j hd hj;obtain ⟨k,s,t,n,l,r,he,hn,h1,ht,h7,h89⟩:=h.at hj;obtain ⟨d,rfl⟩:∃d',d=d'+1:=⟨d-1,by omega⟩
  have part:∀a:Nat,a<j->∀least:Int,Wp (zAT d (Int.ofNat a) least es) (isT (L a+2)):=fun a ha least=>by
   obtain ⟨d2,rfl⟩:∃d',d=d'+1:=⟨d-1,by omega⟩
   exact zVI h (by omega) (ih d2 (by omega) a (by omega) (by omega)) least
  obtain ⟨cs,ct⟩:=hN j k s t n l r he;unfold topL at ht;have m0:zf=9223372036854775807:=rfl;rw [zNh];refine zB2 he ?_
  refine Wp.if (fun _=>Wp.mk ⟨_,rfl,by show 3<=_;omega,zDO rfl⟩) fun _=>?_
  refine Wp.if (fun _=>Wp.gd ?_ (Wp.gd ?_ (Wp.mk ⟨_,rfl,?_,zAN (zAN cs (zDO rfl)) ct⟩))) fun _=>?_
  any_goals (simp only [List.length_append,List.length_cons,List.length_nil];omega)
  refine Wp.if (fun _=>Wp.gd ?_ (Wp.gd ?_ (Wp.mk ⟨_,rfl,?_,zAN (zAN cs (zDO rfl)) ct⟩))) fun _=>?_
  any_goals (simp only [List.length_append,List.length_cons,List.length_nil];omega)
  obtain ⟨f,hf,hfl,cf⟩:=zQK n hn.1 hn.2;refine Wp.if (fun _=>Wp.gd ?_ (qk_s hf (Wp.gd ?_ (Wp.mk ⟨_,rfl,?_,zAN (zAN cs (zDO rfl)) cf⟩)))) fun _=>?_
  any_goals (simp only [List.length_append,List.length_cons,List.length_nil];omega)
  refine Wp.if (fun _=>Wp.gd ?_ (qk_s hf (Wp.gd ?_ (Wp.mk ⟨_,rfl,?_,zAN (zAN cs (zDO rfl)) cf⟩)))) fun _=>?_
  any_goals (simp only [List.length_append,List.length_cons,List.length_nil];omega)
  refine Wp.if (fun hk=>?_) fun _=>?_
  ·obtain ⟨a,rfl,ha,hL⟩:=h7 (by simpa using hk)
   refine wk_s (part a ha _) fun u hu=>Wp.gd ?_ (Wp.mk ⟨_,rfl,?_,zAN (zDO rfl) hu.2⟩)
   all_goals simp only [List.length_append,List.length_cons,List.length_nil]
   all_goals omega
  refine Wp.if (fun hk=>?_) fun _=>?_
  ·obtain ⟨a,b,rfl,rfl,ha,hb,hL⟩:=h89 (.inl (by simpa using hk))
   refine wk_s (part a ha _) fun u hu=>Wp.gd ?_ (wk_s (part b hb _) fun w hw=>Wp.gd ?_ (Wp.mk ⟨_,rfl,?_,zAN (zAN hu.2 (zDO rfl)) hw.2⟩))
   all_goals simp only [List.length_append,List.length_cons,List.length_nil]
   all_goals omega
  refine Wp.if (fun hk=>?_) fun _=>Wp.mk ⟨_,rfl,by omega,cs⟩
  ·obtain ⟨a,b,rfl,rfl,ha,hb,hL⟩:=h89 (.inr (by simpa using hk))
   refine wk_s (part a ha _) fun u hu=>Wp.gd ?_ (wk_s (part b hb _) fun w hw=>Wp.gd ?_ (Wp.mk ⟨_,rfl,?_,zAN (zAN hu.2 (zDO rfl)) hw.2⟩))
   all_goals simp only [List.length_append,List.length_cons,List.length_nil]
   all_goals omega
theorem WF.TL {l:List AV} (h:WF l) (hl:l.length<=64):TL l fbL l.length:=by
 intro j hj;obtain ⟨k,s,t,n,a,b,he,hn,hs,ht,h7,h89⟩:=h j _ (List.getElem?_eq_getElem hj);refine ⟨k,s,t,n,a,b,by rw [List.getElem?_eq_getElem hj,he],hn,by have:=zVE j;have:=hs.1;have:=ht.1;omega,zUD (by omega),fun e=>?_,fun e=>?_⟩
 ·obtain ⟨a',rfl,ha⟩:=h7 e;exact ⟨a',rfl,ha,zUB ha⟩
 ·obtain ⟨a',b',rfl,rfl,ha,hb⟩:=h89 e;exact ⟨a',b',rfl,rfl,by omega,hb,zUC ha hb⟩
theorem WF.NC {l:List AV} (h:WF l):NC l:=fun j k s t n a b e=>by
 obtain ⟨k',s',t',n',a',b',he,_,hs,ht,_⟩:=h j _ e;cases he;exact ⟨hs.2,ht.2⟩
theorem zKQ {l:List AV} {L:Nat->Nat} (h:TL l L l.length) (hN:NC l) (h0:0<l.length) (hl:l.length<=64):Wp (zBf FUEL l (wrapx .i64 (Int.ofNat l.length-1))) fun v=>∃t,v=.str t/\okS t:=by
 rw [zCE h0 (by omega)]
 exact (zUJ h hN FUEL (l.length-1) (Nat.le_of_lt (z0 (by omega))) (by omega)).mono fun v ⟨t,e,h⟩=>⟨t,e,h.2⟩
def isP (v:AV):Prop:=(∃e f,v=.tup [.agg [.nilslice],.agg [.int .i64 e,.int .i64 f]]/\¬(e=0/\f=0))\/∃l,v=.tup [.agg [.lst 6 l],.agg [.int .i64 (Int.ofNat 0),.int .i64 (Int.ofNat 0)]]/\WF l/\l.length<=64
theorem zL1 (q:PS) (hq:Inv q):Wp (zCH q.s q.i q.dp q.n q.e q.fa (Int.ofNat 0) (Int.ofNat 0) q.l) isP:=by
 rw [zKX];refine Wp.if (fun hn=>?_) fun hn=>?_
 ·have hn:¬q.nf:=zL0 hn;exact Wp.mk (.inl ⟨_,_,rfl,hn⟩)
 ·have hn:q.nf:=zI4 hn;obtain ⟨_,_,h1,h2,h3⟩:=hq.ok hn;exact Wp.mk (.inr ⟨_,rfl,h3,by omega⟩)
theorem zO5 (q:PS) (hq:Inv q) (h0:q.nf->0<q.l.length):Wp (zDX q.s q.i q.dp q.n q.e q.fa (Int.ofNat 0) (Int.ofNat 0) q.l) isP:=by
 rw [zKY];refine Wp.if (fun hn=>?_) fun _=>zL1 q hq
 have hn:q.nf:=zMP.1 hn;obtain ⟨_,_,h1,h2,h3⟩:=hq.ok hn;have hl:q.l.length<=64:=by omega
 exact wk_s (zKQ (h3.TL hl) h3.NC (h0 hn) hl) fun t _=>Wp.ite (fun _=>wdU (zCN _ _ (by decide) q hq.z) fun r hr=>zL1 r hr.1) fun _=>zL1 q hq
theorem zJG (s:List Nat) (h8:∀c∈s,c<256):Wp (zBo s) isP:=by
 rw [zIt];refine Wp.ite (fun _=>Wp.mk (.inl ⟨_,_,rfl,fun h=>(by cases h.1)⟩)) fun hs=>?_
 rw [Int.ofNat_eq_natCast] at hs;have hp:Inv ⟨s,Int.ofNat 0,Int.ofNat 0,Int.ofNat 0,Int.ofNat 0,Int.ofNat 0,[],h8⟩:=⟨Int.le_refl _,Int.natCast_nonneg _,by show s.length<=1024;omega,fun _=>⟨Int.le_refl _,(by decide:Int.ofNat 0<=32),Int.le_refl _,(by decide:Int.ofNat 0<=64),fun j v h=>by cases h⟩⟩
 have hm:5*(PS.mk s (Int.ofNat 0) (Int.ofNat 0) (Int.ofNat 0) (Int.ofNat 0) (Int.ofNat 0) [] h8).m+5<=FUEL:=by
  rw [m_nf ⟨rfl,rfl⟩];have:FUEL=1180591620717411303424:=zIX;rw [this];exact (by decide:5*(33-Int.ofNat 0).toNat+5<=1180591620717411303424)
 refine wdI (Post.out ((zQL FUEL).2.2.2.2 _ hp hm)) fun x q hq=>wdU (zEc q hq.1) fun r hr=>?_
 have h0:r.nf->0<r.l.length:=fun hn=>by
  have:=(hq.2.2 (hr.2.1.nf hn).1).2;rw [hr.2.2];exact this
 exact Wp.ite (fun _=>wdU (zCN _ _ (by decide) r hr.1.z) fun u hu=>zO5 u hu.1 fun hn=>absurd hn hu.2.2.2) fun _=>zO5 r hr.1 h0
end Go.Proofs.YtdeeimaahdgeaaaGreatDoor.spec
namespace Go.Proofs.YtdeeimaahdgeaaaGreatDoor.spec
open Go Go.Sy
variable [MX]
def zI5 (us:List AV) (c:Nat->Int) (m:Nat):Prop:=us.length=m/\∀j,j<m->us[j]? = some (.int .i64 (c j))
theorem zLg {us:List AV} {j:Nat} {x:Int} (h:us[j]? = some (.int .i64 x)):ldE us (Int.toNat (Int.ofNat j)) 0 1 false=some (.int .i64 x):=by
 show (match us[j]? with | some e=>Go.Sy.part e.cells 0 1 false | none=>none)=_
 rw [h];rfl
theorem zI5.set {us:List AV} {c:Nat->Int} {m a:Nat} (h:zI5 us c m) (ha:a<m) (x:Int):zI5 (us.set a (.int .i64 x)) (upd c a x) m:=by
 refine ⟨by rw [List.length_set];exact h.1,fun j hj=>?_⟩
 by_cases e:j=a
 ·subst e;rw [zDz,List.getElem?_set_self (by rw [h.1];exact hj)]
 ·rw [zAK e,List.getElem?_set_ne (fun e'=>e e'.symm)]
  exact h.2 j hj
def bigK:Nat:=4000100
def Bad (c:Nat->Int) (m:Nat):Prop:=∃j,j<m/\2<=c j
structure Sh (es:List AV) (L:Nat->Nat) (c:Nat->Int) (i T:Nat):Prop where
 tl:TL es L i
 le:∀j,j<i->L j<=bigK*i
 sum:rs L c i+T<=bigK*i
 old:∀j,j<i->c j=0\/c j=1
 new:∀j,i<=j->c j=0
def Ok (es:List AV) (c:Nat->Int) (m i T:Nat) (ks:List Nat):Prop:=Bad c m\/∃L,Sh es L c i T/\(ks.map L).foldr (·+·) 0<=T
theorem Sh.take {es:List AV} {L:Nat->Nat} {c:Nat->Int} {i T a:Nat} (h:Sh es L c i T) (ha:a<i) (h0:c a=0):Sh es L (upd c a (c a+1)) i (T+L a):=by
 refine ⟨h.tl,h.le,?_,fun j hj=>?_,fun j hj=>?_⟩
 ·have:=zP5 (L:=L) h0 (show c a+1≠0 by omega) ha
  have:=h.sum;omega
 ·by_cases e:j=a
  ·subst e;rw [zDz];omega
  ·rw [zAK e];exact h.old j hj
 ·rw [zAK (by omega)];exact h.new j hj
theorem Ok.take {es:List AV} {c:Nat->Int} {m i T a:Nat} {ks:List Nat} (h:Ok es c m i T ks) (ha:a<i) (him:i<=m) (hc:∀j,0<=c j):∃T',Ok es (upd c a (c a+1)) m i T' (a::ks):=by
 rcases h with ⟨j,hj,h2⟩ | ⟨L,h,hk⟩
 ·refine ⟨0,.inl ⟨j,hj,?_⟩⟩
  by_cases e:j=a
  ·subst e;rw [zDz];omega
  ·rw [zAK e];exact h2
 ·rcases h.old a ha with h0 | h1
  ·refine ⟨T+L a,.inr ⟨L,h.take ha h0,?_⟩⟩
   show L a+(ks.map L).foldr (·+·) 0<=_
   omega
  ·exact ⟨0,.inl ⟨a,by omega,by rw [zDz];omega⟩⟩
theorem Ok.next {es:List AV} {c:Nat->Int} {m i T:Nat} {ks:List Nat} (h:Ok es c m i T ks) (him:i<m) (hi:i<64) {k:Int} {s t:List Nat} {n l r:Int} (he:es[i]? = some (nd6 k s t n l r)) (hn:-9223372036854775808<=n/\n<=9223372036854775807) (hs:s.length+t.length+24<=bigK)
  (h7:k=7->∃a:Nat,l=Int.ofNat a/\a<i/\ks=[a]) (h89:k=8\/k=9->∃a b:Nat,l=Int.ofNat a/\r=Int.ofNat b/\a<i/\b<i/\ks=[b,a]):Ok es c m (i+1) 0 []:=by
 rcases h with hb | ⟨L,h,hk⟩
 ·exact .inl hb
 ·refine .inr ⟨upd L i (T+bigK),⟨fun j hj=>?_,fun j hj=>?_,?_,fun j hj=>?_,fun j hj=>h.new j (by omega)⟩,Nat.le_refl _⟩
  ·by_cases e:j=i
   ·subst e;have hT:T<=bigK*j:=by have:=h.sum;omega
    refine ⟨k,s,t,n,l,r,he,hn,by rw [zDz];omega,by rw [zDz];unfold bigK topL at *;omega,fun e=>?_,fun e=>?_⟩
    ·obtain ⟨a,rfl,ha,rfl⟩:=h7 e;have hk:L a+0<=T:=hk;exact ⟨a,rfl,ha,by rw [zDz,zAK (by omega)];unfold bigK;omega⟩
    ·obtain ⟨a,b,rfl,rfl,ha,hb,rfl⟩:=h89 e;have hk:L b+(L a+0)<=T:=hk;exact ⟨a,b,rfl,rfl,ha,hb,by rw [zDz,zAK (by omega),zAK (by omega)];unfold bigK;omega⟩
   ·obtain ⟨k',s',t',n',l',r',q1,q2,q3,q4,q5,q6⟩:=h.tl j (by omega)
    refine ⟨k',s',t',n',l',r',q1,q2,by rw [zAK e];exact q3,by rw [zAK e];exact q4,fun e'=>?_,fun e'=>?_⟩
    ·obtain ⟨a,rfl,ha,hL⟩:=q5 e';exact ⟨a,rfl,ha,by rw [zAK e,zAK (by omega)];exact hL⟩
    ·obtain ⟨a,b,rfl,rfl,ha,hb,hL⟩:=q6 e';exact ⟨a,b,rfl,rfl,ha,hb,by rw [zAK e,zAK (by omega),zAK (by omega)];exact hL⟩
  ·by_cases e:j=i
   ·subst e;rw [zDz];have:=h.sum;rw [Nat.mul_add];omega
   ·rw [zAK e];have:=h.le j (by omega);rw [Nat.mul_add];omega
  ·rw [rs,zLY (L':=L) (c':=c) (fun j hj=>zAK (by omega)) fun _ _=>rfl,zDz,if_pos (h.new i (Nat.le_refl _)),Nat.mul_add]
   have:=h.sum;omega
  ·by_cases e:j=i
   ·subst e;exact .inl (h.new j (Nat.le_refl _))
   ·exact h.old j (by omega)
abbrev isSh (es:List AV) (v:AV):Prop:=∃b,v=.bool b/\(b=true->0<es.length/\es.length<=64/\∃L,TL es L es.length)
theorem zDk {es:List AV}:isSh es (.bool false):=⟨false,rfl,fun h=>by cases h⟩
theorem zQM (es us:List AV) (c:Nat->Int) (hu:zI5 us c es.length) (h0:0<es.length) (h64:es.length<=64) (hok:Ok es c es.length es.length 0 []):∀(n i:Nat),i<=es.length->es.length-i<n->(∀j,j<i->j<es.length-1->c j=1)->Wp (zBP n es (Int.ofNat us.length) (Int.ofNat i) us) (isSh es):=by
 intro n
 induction n with
 | zero=>intro i _ h;omega
 | succ n ih=>
  intro i hi hn hj;have hul:=hu.1;rw [zJP,hu.1];have hlast:wrapx .i64 (Int.ofNat es.length-1)=Int.ofNat (es.length-1):=zCE h0 (by omega)
  refine Wp.lt (fun hlt=>?_) fun hge=>?_
  ·refine zJC hlt (qk_i (zLg (hu.2 i hlt)) ?_)
   rw [hlast,zo (by omega),←hu.1]
   refine Wp.lt (fun hl=>Wp.if (fun _=>Wp.mk zDk) fun h1=>ih (i+1) hlt (by omega) fun j h2 h3=>?_) fun hl=>ih (i+1) hlt (by omega) fun j h2 h3=>?_
   ·by_cases e:j=i
    ·subst e;simpa using h1
    ·exact hj j (by omega) h3
   ·exact hj j (by omega) h3
  ·rw [hlast];refine zJC (by omega) (qk_i (zLg (hu.2 _ (by omega))) (Wp.mk ⟨_,rfl,fun hb=>⟨h0,h64,?_⟩⟩))
   have hb:c (es.length-1)=0:=by simpa using hb
   rcases hok with ⟨j,hjl,h2⟩ | ⟨L,h,_⟩
   ·by_cases e:j<es.length-1
    ·have:=hj j (by omega) e;omega
    ·have:j=es.length-1:=by omega
     subst this;omega
   ·exact ⟨L,h.tl⟩
end Go.Proofs.YtdeeimaahdgeaaaGreatDoor.spec
namespace Go.Proofs.YtdeeimaahdgeaaaGreatDoor.spec
open Go Go.Sy
variable [MX]
theorem zIF {es us parts:List AV} {n27 n i x:Nat} {c:Nat->Int} {k:Int} {P:AV->Prop} (hu:zI5 us c es.length) (hc:∀j,0<=c j/\c j<=1000) (hx:parts[x]? = some (.int .i64 k)) (hx2:x<5) (hi:i<=es.length) (t23 t24:Int) (t22:List AV) (hf:P (.bool false))
  (h:∀a:Nat,k=Int.ofNat a->a<i->Wp (zAO n27 n es (Int.ofNat i) t22 t23 t24 (Int.ofNat parts.length) (Int.ofNat (x+1)) (us.set a (.int .i64 (c a+1))) parts) P):Wp (zAO n27 (n+1) es (Int.ofNat i) t22 t23 t24 (Int.ofNat parts.length) (Int.ofNat x) us parts) P:=by
 have hlt:x<parts.length:=(List.getElem?_eq_some_iff.1 hx).1;rw [zGa];refine Wp.lt (fun _=>zJC hlt (qk_i (zLg hx) (Wp.ite (fun _=>Wp.mk hf) fun h0=>Wp.ite (fun _=>Wp.mk hf) fun h1=>?_))) fun hge=>absurd hlt (by omega)
 obtain ⟨a,rfl⟩:=Int.eq_ofNat_of_zero_le (show 0<=k by omega)
 have ha:a<i:=by rw [Int.ofNat_eq_natCast] at h1;omega
 have hal:a<us.length:=by rw [hu.1];omega
 have hca:=hc a;refine zJC hal (qk_i (zLg (hu.2 a (by omega))) (zJC hal ?_))
 rw [zo (by omega),zN (by omega) (by omega)]
 exact h a rfl ha
theorem zJH {es us parts:List AV} {n27 n i x:Nat} {P:AV->Prop} (hx:x=parts.length) (hi:i<1000) (t22:List AV) (t23:Int) (h:Wp (zBQ n27 es t22 t23 (Int.ofNat (i+1)) us) P):Wp (zAO n27 (n+1) es (Int.ofNat i) t22 t23 (Int.ofNat i) (Int.ofNat parts.length) (Int.ofNat x) us parts) P:=by
 rw [zGa];refine Wp.lt (fun h=>absurd h (by omega)) fun _=>?_
 rw [zo (by omega)]
 exact h
theorem zQN:FUEL=1180591620717411303421+1+1+1:=zIX
theorem zO6 {c:Nat->Int} {a n:Nat} (hc:∀j,0<=c j/\c j<=(n:Int)) (j:Nat):0<=upd c a (c a+1) j/\upd c a (c a+1) j<=((n+1:Nat):Int):=by
 by_cases e:j=a
 ·subst e;rw [zDz];have:=hc j;omega
 ·rw [zAK e];have:=hc j;omega
theorem zLF (es:List AV) (h:Nds es):Wp (zGI es) (isSh es):=by
 rw [zMb];refine Wp.ite (fun _=>Wp.mk zDk) fun h0=>Wp.ite (fun _=>Wp.mk zDk) fun h64=>?_
 rw [Int.ofNat_eq_natCast] at h0 h64;have h0:0<es.length:=by omega
 have h64:es.length<=64:=by omega
 have loop:∀(n i:Nat) (us:List AV) (c:Nat->Int),i<=es.length->es.length-i<n->zI5 us c es.length->(∀j,0<=c j/\c j<=((2*i:Nat):Int))->Ok es c es.length i 0 []->Wp (zBQ n es es (Int.ofNat es.length) (Int.ofNat i) us) (isSh es):=by
  intro n
  induction n with
  | zero=>intro i us c _ h;omega
  | succ n ih=>
   intro i us c hi hn hu hc hok;have hc1:∀j,0<=c j/\c j<=1000:=fun j=>by have:=hc j;omega
   have hc2:∀j,0<=c j/\c j<=((2*(i+1):Nat):Int):=fun j=>by have:=hc j;omega
   rw [zJQ];refine Wp.lt (fun hlt=>?_) fun hge=>?_
   ·obtain ⟨k,s,t,nn,l,r,he,n0,n1,hs,ht⟩:=h.1 _ (List.getElem_mem hlt);have he':es[i]? = some (nd6 k s t nn l r):=by rw [List.getElem?_eq_getElem hlt,he]
    have hst:s.length+t.length+24<=bigK:=by have a1:=hs.1;have a2:=ht.1;unfold bigK;omega
    refine zB2 ((zAW hlt).trans (congrArg some he)) ?_
    have next0:∀parts,parts=[]->¬k=7->¬(k=8\/k=9)->Wp (zA7 n es (Int.ofNat i) es (Int.ofNat es.length) (Int.ofNat i) us parts) (isSh es):=fun parts hp h7 h8=>by
     subst hp;rw [zDT,zQN];exact zJH rfl (by omega) _ _ (ih (i+1) us c hlt (by omega) hu hc2 (hok.next hlt (by omega) he' ⟨n0,n1⟩ hst (fun e=>absurd e h7) fun e=>absurd e h8))
    refine Wp.if (fun hk=>?_) fun hk7=>?_
    ·have hk:k=7:=by simpa using hk
     refine Wp.if (fun _=>Wp.mk zDk) fun _=>?_
     rw [zDT,zQN];refine zIF (parts:=[.int .i64 l]) (x:=0) hu hc1 rfl (by omega) hi _ _ _ zDk fun a ha hai=>?_
     obtain ⟨T,ok1⟩:=hok.take hai hi fun j=>(hc j).1
     refine zJH rfl (by omega) _ _ (ih (i+1) _ (upd c a (c a+1)) hlt (by omega) (hu.set (by omega) _) (fun j=>?_) (ok1.next hlt (by omega) he' ⟨n0,n1⟩ hst (fun _=>⟨a,ha,hai,rfl⟩) fun e=>by omega))
     have:=zO6 (a:=a) hc j;omega
    ·have hk7:¬k=7:=by simpa using hk7
     have two:k=8\/k=9->Wp (zA7 n es (Int.ofNat i) es (Int.ofNat es.length) (Int.ofNat i) us [.int .i64 l,.int .i64 r]) (isSh es):=fun hk=>by
      rw [zDT,zQN];refine zIF (parts:=[.int .i64 l,.int .i64 r]) (x:=0) hu hc1 rfl (by omega) hi _ _ _ zDk fun a ha hai=>?_
      obtain ⟨T,ok1⟩:=hok.take hai hi fun j=>(hc j).1
      have hc3:=fun j=>zO6 (a:=a) hc j
      refine zIF (parts:=[.int .i64 l,.int .i64 r]) (x:=1) (hu.set (by omega) _) (fun j=>by have:=hc3 j;omega) rfl (by omega) hi _ _ _ zDk fun b hb hbi=>?_
      obtain ⟨T2,ok2⟩:=ok1.take hbi hi fun j=>(hc3 j).1
      refine zJH rfl (by omega) _ _ (ih (i+1) _ (upd (upd c a (c a+1)) b (upd c a (c a+1) b+1)) hlt (by omega) ((hu.set (by omega) _).set (by omega) _) (fun j=>?_) (ok2.next hlt (by omega) he' ⟨n0,n1⟩ hst (fun e=>by omega) fun _=>⟨a,b,ha,hb,hai,hbi,rfl⟩))
      have:=zO6 (a:=b) hc3 j;omega
     have j2:∀b:Bool,(b=true->k=8\/k=9)->(b=false->¬(k=8\/k=9))->Wp (zDs n es (Int.ofNat i) es (Int.ofNat es.length) (Int.ofNat i) b k s t nn l r us []) (isSh es):=fun b b1 b0=>by
      rw [zJ9];exact Wp.if (fun hb=>two (b1 hb)) fun hb=>Wp.if (fun _=>Wp.mk zDk) fun _=>Wp.if (fun _=>Wp.mk zDk) fun _=>next0 [] rfl hk7 (b0 hb)
     refine Wp.if (fun hk=>j2 true (fun _=>.inl (by simpa using hk)) fun e=>by cases e) fun hk8=>j2 _ (fun e=>.inr (by simpa using e)) fun e=>?_
     have hk8:¬k=8:=by simpa using hk8
     have hk9:¬k=9:=by simpa using e
     omega
   ·have:i=es.length:=by omega
    subst this;exact zQM es us c hu h0 h64 hok _ 0 (Nat.zero_le _) (z0 (by omega)) fun j hj=>by omega
 rw [zKa];have e1:Int.toNat (Int.ofNat es.length)=es.length:=rfl;refine Wp.gd ⟨Int.natCast_nonneg _,Int.le_refl _,?_,?_⟩ (loop _ 0 _ (fun _=>0) (Nat.zero_le _) (z0 (by omega)) ⟨?_,fun j hj=>?_⟩ (fun j=>by omega) (.inr ⟨fun _=>0,⟨fun j hj=>by omega,fun j hj=>by omega,Nat.le_refl _,fun j hj=>by omega,fun _ _=>rfl⟩,Nat.le_refl _⟩))
 ·rw [e1];unfold zg;omega
 ·rw [e1];unfold zg;omega
 ·rw [e1,List.length_replicate]
 ·rw [e1];exact List.getElem?_eq_some_iff.2 ⟨by rw [List.length_replicate];exact hj,by rw [List.getElem_replicate]⟩
theorem zOg {l:List AV} (h:WF l) (hl:l.length<=64):Nds l:=⟨fun e he=>by
 obtain ⟨j,hj⟩:=List.getElem?_of_mem he;obtain ⟨k,s,t,n,a,b,rfl,hn,hs,ht,_⟩:=h j e hj;exact ⟨k,s,t,n,a,b,rfl,hn.1,hn.2,⟨by have:=hs.1;omega,hs.2⟩,⟨by have:=ht.1;omega,ht.2⟩⟩,by omega⟩
theorem zPE (es:List AV) (h:Nds es):Wp (zCj es) fun v=>∃n,v=.int .i64 n/\(n=0->0<es.length/\es.length<=64/\∃L,TL es L es.length):=by
 have hbad:∀n:Int,n≠0->∃m,(AV.int .i64 n)=.int .i64 m/\(m=0->0<es.length/\es.length<=64/\∃L,TL es L es.length):=fun n hn=>⟨n,rfl,fun e=>absurd e hn⟩
 rw [zIu];refine wk_b (zLF es h) fun b hb=>Wp.if (fun _=>Wp.mk (hbad _ (by decide))) fun hnb=>?_
 have hnb:b=true:=by simpa using hnb
 obtain ⟨h0,h64,L,hL⟩:=hb hnb;have hN:NC es:=fun j k s t n l r e=>by
  obtain ⟨k',s',t',n',l',r',he,_,_,hs,ht⟩:=h.1 _ (List.mem_of_getElem? e);cases he;exact ⟨hs.2,ht.2⟩
 refine wk_s (zKQ hL hN h0 h64) fun t ht=>?_
 obtain ⟨v,e,hv⟩:=zJG t fun c hc=>by have:=(ht c hc).2.1;omega
 rw [e];rcases hv with ⟨x,f,rfl,hn⟩ | ⟨l,rfl,hw,hl⟩
 ·show Wp (br (!(x==0&&f==0)) _ _) _
  exact Wp.if (fun _=>Wp.mk (hbad _ (by decide))) fun hf=>absurd (zI4 (p:=⟨[],0,0,0,x,f,[],fun c hc=>by cases hc⟩) hf) hn
 ·rw [zNZ];exact Wp.if (fun _=>Wp.mk (hbad _ (by decide))) fun _=>wk_b (zF3 l es (zOg hw hl) h) fun b _=>Wp.if (fun _=>Wp.mk (hbad _ (by decide))) fun _=>Wp.mk ⟨_,rfl,fun _=>⟨h0,h64,L,hL⟩⟩
theorem zG9 (es:List AV) (h:Nds es):Wp (zCj es) isE:=(zPE es h).mono fun v ⟨n,e,_⟩=>⟨n,e,trivial⟩
end Go.Proofs.YtdeeimaahdgeaaaGreatDoor.spec
namespace Go.Proofs.YtdeeimaahdgeaaaGreatDoor.spec
open Go Go.Sy
variable [MX]
abbrev Wd:=List Nat×Int
def wdA (base:Int) (w:Wd):AV:=.agg [.str w.1,.int .i64 (base+w.2)]
def wds (base:Int) (ws:List Wd):List AV:=ws.map (wdA base)
def CutR.enc (base:Int):Except Int (List Wd)->AV
 | .error p=>.tup [.nilslice,.agg [.int .i64 5,.int .i64 (base+p)]]
 | .ok ws=>.tup [.lst 2 (wds base ws),.agg [.int .i64 0,.int .i64 0]]
def CutR.Ok (l:List Nat):Except Int (List Wd)->Prop
 | .error p=>0<=p/\p<=l.length
 | .ok ws=>ws.length<=l.length+1/\∀w∈ws,w.1.length<=l.length/\0<=w.2/\w.2<=l.length/\∀c∈w.1,c∈l
def RC (n:List Nat) (base:Int) (o o0:Option AV):Prop:=∃r,CutR.Ok n r/\o=some (CutR.enc base r)/\o0=some (CutR.enc 0 r)
section
variable {n:List Nat} {base:Int}
theorem RC.fault {p:Int} (h0:0<=p) (h1:p<=n.length) {a a0:Int} (ha:a=base+p) (ha0:a0=0+p):RC n base (some (.tup [.nilslice,.agg [.int .i64 5,.int .i64 a]])) (some (.tup [.nilslice,.agg [.int .i64 5,.int .i64 a0]])):=by
 subst ha;subst ha0;exact ⟨.error p,⟨h0,h1⟩,rfl,rfl⟩
end
section
variable {β:Type} {R:Option β->Option β->Prop}
theorem R2.br {c:Bool} {x y x0 y0:Option β} (h1:c=true->R x x0) (h2:c=false->R y y0):R (br c x y) (br c x0 y0):=by
 cases c
 ·exact h2 rfl
 ·exact h1 rfl
theorem R2.ite {p:Prop} [Decidable p] {x y x0 y0:Option β} (h1:p->R x x0) (h2:¬p->R y y0):R (Go.Sy.br (decide p) x y) (Go.Sy.br (decide p) x0 y0):=
 R2.br (fun h=>h1 (of_decide_eq_true h)) fun h=>h2 (of_decide_eq_false h)
theorem R2.gd {p:Prop} [Decidable p] {x x0:Option β} (h:p) (k:R x x0):R (gd (decide p) x) (gd (decide p) x0):=by
 rw [decide_eq_true h];exact k
theorem R2.gd2 {p p0:Prop} [Decidable p] [Decidable p0] {x x0:Option β} (h:p) (h0:p0) (k:R x x0):R (Go.Sy.gd (decide p) x) (Go.Sy.gd (decide p0) x0):=by
 rw [decide_eq_true h,decide_eq_true h0];exact k
theorem R2.bd {α:Type} {o:Option α} {f f0:α->Option β} {a:α} (h:o=some a) (k:R (f a) (f0 a)):R (bd o f) (bd o f0):=by
 subst h;exact k
end
theorem zA3 (base:Int) (ws:List Wd):(wds base ws).length=ws.length:=List.length_map _
theorem zNf (base:Int) (ws:List Wd) (s:List Nat) (p:Int):wds base ws++[.agg [.str s,.int .i64 (base+p)]]=wds base (ws++[(s,p)]):=by
 unfold wds;rw [List.map_append];rfl
section
variable {line:List Nat} {base:Int} (hl:line.length<=65536) (hb0:0<=base) (hb1:base<=1000000)
theorem zSY (hl:line.length<=65536) (hb0:0<=base) (hb1:base<=1000000) (e:Nat) (he:e<=line.length) (a b a0 b0:Int):∀(f i st fr q:Nat) (ws:List Wd),i<=e+1->e+1-i<f->fr<=i->q<=i->fr<=line.length->q<=line.length->(st=0\/st=1\/st=2\/st=3)->(st=1->fr<i)->ws.length<=i->(∀w∈ws,w.1.length<=line.length/\0<=w.2/\w.2<=line.length/\∀c∈w.1,c∈line) →
  RC line base (zB4 f line base (Int.ofNat st) (Int.ofNat fr) (Int.ofNat q) (Int.ofNat e) (Int.ofNat i) a b (wds base ws)) (zB4 f line 0 (Int.ofNat st) (Int.ofNat fr) (Int.ofNat q) (Int.ofNat e) (Int.ofNat i) a0 b0 (wds 0 ws)):=by
 intro f
 induction f with
 | zero=>intro i _ _ _ _ _ h;omega
 | succ f ih=>
  intro i st fr q ws hi hf hfr hq hfl hql hst hst1 hws hwo;have wr:∀(x:Nat),x<=line.length->∀(bb:Int),0<=bb->bb<=1000000->wrapx .i64 (bb+Int.ofNat x)=bb+Int.ofNat x:=fun x hx bb h0 h1=>zN (by rw [Int.ofNat_eq_natCast];omega) (by rw [Int.ofNat_eq_natCast];omega)
  have next:∀(st' fr' q':Nat) (ws':List Wd),i<=e->fr'<=i+1->q'<=i+1->fr'<=line.length->q'<=line.length->(st'=0\/st'=1\/st'=2\/st'=3)->(st'=1->fr'<i+1)->ws'.length<=i+1->(∀w∈ws',w.1.length<=line.length/\0<=w.2/\w.2<=line.length/\∀c∈w.1,c∈line) →
    RC line base (z8 f line base (Int.ofNat st') (Int.ofNat fr') (Int.ofNat q') (Int.ofNat e) (Int.ofNat i) a b (wds base ws')) (z8 f line 0 (Int.ofNat st') (Int.ofNat fr') (Int.ofNat q') (Int.ofNat e) (Int.ofNat i) a0 b0 (wds 0 ws')):=fun st' fr' q' ws' hie h1 h2 h3 h4 h5 h6 h7 h8=>by
   rw [zFt,zFt,zo (by omega)]
   exact ih (i+1) st' fr' q' ws' (by omega) (by omega) h1 h2 h3 h4 h5 h6 h7 h8
  rw [zBS,zBS];refine R2.ite (fun hie=>?_) fun _=>⟨.ok ws,⟨by omega,hwo⟩,rfl,rfl⟩
  have hie:i<=e:=by rw [Int.ofNat_eq_natCast,Int.ofNat_eq_natCast] at hie;omega
  have hil:i<=line.length:=by omega
  have flt:∀(x:Nat),x<=line.length->RC line base (some (.tup [.nilslice,.agg [.int .i64 5,.int .i64 (wrapx .i64 (base+Int.ofNat x))]])) (some (.tup [.nilslice,.agg [.int .i64 5,.int .i64 (wrapx .i64 (0+Int.ofNat x))]])):=fun x hx=>
   RC.fault (p:=Int.ofNat x) (Int.natCast_nonneg _) (Int.ofNat_le.2 hx) (wr x hx base hb0 hb1) (wr x hx 0 (Int.le_refl _) (by omega))
  have body:∀c:Int,(i=e->c=32)->RC line base (zAR f line base (Int.ofNat st) (Int.ofNat fr) (Int.ofNat q) (Int.ofNat e) (Int.ofNat i) c a b (wds base ws)) (zAR f line 0 (Int.ofNat st) (Int.ofNat fr) (Int.ofNat q) (Int.ofNat e) (Int.ofNat i) c a0 b0 (wds 0 ws)):=fun c hc=>by
   rw [zBb,zBb];have j3:∀t,RC line base (zDA f line base (Int.ofNat st) (Int.ofNat fr) (Int.ofNat q) (Int.ofNat e) (Int.ofNat i) t a b (wds base ws)) (zDA f line 0 (Int.ofNat st) (Int.ofNat fr) (Int.ofNat q) (Int.ofNat e) (Int.ofNat i) t a0 b0 (wds 0 ws)):=fun t=>by
    rw [zFu,zFu];exact R2.br (fun _=>flt q hql) fun _=>next st fr q ws hie (by omega) (by omega) hfl hql hst (fun h=>by have:=hst1 h;omega) (by omega) hwo
   refine R2.br (fun _=>R2.br (fun _=>flt q hql) fun _=>R2.br (fun _=>next 3 fr q ws hie (by omega) (by omega) hfl hql (.inr (.inr (.inr rfl))) (fun h=>by cases h) (by omega) hwo) fun _=>R2.ite (fun _=>j3 _) fun _=>j3 _) fun h2=>?_
   have hst2:st≠2:=by
    intro h;subst h;simp at h2
   refine R2.br (fun _=>R2.br (fun _=>?_) fun _=>next 0 fr q ws hie (by omega) (by omega) hfl hql (.inl rfl) (fun h=>by cases h) (by omega) hwo) fun hc32=>?_
   ·refine R2.gd ⟨Int.natCast_nonneg _,Int.ofNat_le.2 hfr,Int.ofNat_le.2 hil⟩ (R2.gd2 (zLf (k:=24) (show (wds base ws).length+1<=_ by rw [zA3];omega) (by omega)) (zLf (k:=24) (show (wds 0 ws).length+1<=_ by rw [zA3];omega) (by omega)) ?_)
    have w1:=wr fr hfl base hb0 hb1;have w0:=wr fr hfl 0 (Int.le_refl _) (by omega)
    rw [w1,w0];have e1:=zNf base ws (List.drop (Int.toNat (Int.ofNat fr)) (List.take (Int.toNat (Int.ofNat i)) line)) (Int.ofNat fr);have e0:=zNf 0 ws (List.drop (Int.toNat (Int.ofNat fr)) (List.take (Int.toNat (Int.ofNat i)) line)) (Int.ofNat fr);have:=next 0 fr q (ws++[(List.drop (Int.toNat (Int.ofNat fr)) (List.take (Int.toNat (Int.ofNat i)) line),Int.ofNat fr)]) hie (by omega) (by omega) hfl hql (.inl rfl) (fun h=>by cases h) (by rw [List.length_append];show ws.length+1<=_;omega) (fun w hw=>by
     rcases List.mem_append.1 hw with hw | hw
     ·exact hwo w hw
     ·rw [List.mem_singleton.1 hw];refine ⟨?_,Int.natCast_nonneg _,Int.ofNat_le.2 hfl,fun c hc=>List.take_subset _ _ (List.drop_subset _ _ hc)⟩
      rw [List.length_drop,List.length_take];omega)
    rw [←e1,←e0] at this;exact this
   ·have hne:i≠e:=fun h=>by rw [hc h] at hc32;cases hc32
    have j4:∀t,RC line base (zCy f line base (Int.ofNat st) (Int.ofNat fr) (Int.ofNat q) (Int.ofNat e) (Int.ofNat i) c t (Int.ofNat 5) (wrapx .i64 (base+Int.ofNat i)) a b (wds base ws)) (zCy f line 0 (Int.ofNat st) (Int.ofNat fr) (Int.ofNat q) (Int.ofNat e) (Int.ofNat i) c t (Int.ofNat 5) (wrapx .i64 (0+Int.ofNat i)) a0 b0 (wds 0 ws)):=fun t=>by
     rw [zCm,zCm];refine R2.br (fun _=>flt i hil) fun _=>R2.br (fun _=>R2.br (fun _=>flt i hil) fun _=>next 1 i q ws hie (by omega) (by omega) hil hql (.inr (.inl rfl)) (fun _=>by omega) (by omega) hwo) fun h0=>R2.br (fun _=>flt i hil) fun h3=>R2.br (fun _=>?_) fun _=>next st fr q ws hie (by omega) (by omega) hfl hql hst (fun h=>by have:=hst1 h;omega) (by omega) hwo
     have hs1:st=1:=by
      rcases hst with h | h | h | h
      ·subst h;simp at h0
      ·exact h
      ·exact absurd h hst2
      ·subst h;simp at h3
     have hlt:=hst1 hs1;have hw:wrapx .i64 (Int.ofNat i-1)=Int.ofNat (i-1):=zCE (by omega) (by omega)
     rw [hw];refine R2.bd (zAW (show i-1<line.length by omega)) (R2.br (fun _=>flt i hil) fun _=>R2.gd ⟨Int.natCast_nonneg _,Int.ofNat_le.2 hfr,Int.ofNat_le.2 hil⟩ ?_)
     obtain ⟨z,hz⟩:=zN1 (List.drop (Int.toNat (Int.ofNat fr)) (List.take (Int.toNat (Int.ofNat i)) line)) 61;exact rk_i hz (R2.br (fun _=>flt i hil) fun _=>next 2 fr i ws hie (by omega) (by omega) hfl hil (.inr (.inr (.inl rfl))) (fun h=>by cases h) (by omega) hwo)
    exact R2.ite (fun _=>j4 _) fun _=>j4 _
  refine R2.ite (fun hlt=>?_) fun hge=>body _ fun _=>rfl
  have hlt:i<e:=by rw [Int.ofNat_eq_natCast,Int.ofNat_eq_natCast] at hlt;omega
  exact R2.bd (zAW (show i<line.length by omega)) (body _ fun h=>by omega)
theorem zSZ (hl:line.length<=65536) (hb0:0<=base) (hb1:base<=1000000):RC line base (zBU line base) (zBU line 0):=by
 rw [zGJ,zGJ];have hr:∃z:Int,zFl line=some (.int .i64 z)/\(z<0\/∃k:Nat,z=Int.ofNat k/\k<=line.length):=by
  rw [zHK];have h1:=Lib.indexByte_ge (line.map UInt8.ofNat) (35:Int).toNat.toUInt8;refine ⟨Lib.indexByte (line.map UInt8.ofNat) (35:Int).toNat.toUInt8,rfl,?_⟩
  by_cases h:Lib.indexByte (line.map UInt8.ofNat) (35:Int).toNat.toUInt8<0
  ·exact .inl h
  ·obtain ⟨o,ho⟩:=Int.eq_ofNat_of_zero_le (show 0<=Lib.indexByte (line.map UInt8.ofNat) (35:Int).toNat.toUInt8 by omega)
   refine .inr ⟨o,by rw [ho];rfl,?_⟩
   have:=(List.getElem?_eq_some_iff.1 (Lib.indexByte_some ho).1).1;rw [List.length_map] at this;omega
 obtain ⟨z,hz,hk⟩:=hr;have go:∀e:Nat,e<=line.length->RC line base (zDB line base (Int.ofNat 0) (Int.ofNat 0) (Int.ofNat 0) (Int.ofNat e) (Int.ofNat 0) (Int.ofNat 0)) (zDB line 0 (Int.ofNat 0) (Int.ofNat 0) (Int.ofNat 0) (Int.ofNat e) (Int.ofNat 0) (Int.ofNat 0)):=fun e he=>by
  rw [zFv,zFv];exact zSY hl hb0 hb1 e he _ _ _ _ FUEL 0 0 0 0 [] (by omega) (z0 (by omega)) (Nat.le_refl _) (Nat.le_refl _) (Nat.zero_le _) (Nat.zero_le _) (.inl rfl) (fun h=>by cases h) (Nat.le_refl _) fun w hw=>by cases hw
 refine rk_i hz (R2.ite (fun h=>?_) fun _=>go line.length (Nat.le_refl _))
 rcases hk with hk | ⟨k,rfl,hk⟩
 ·omega
 ·exact go k hk
end
end Go.Proofs.YtdeeimaahdgeaaaGreatDoor.spec
namespace Go.Proofs.YtdeeimaahdgeaaaGreatDoor.spec
open Go Go.Sy
variable [MX]
theorem zEd (s:List Nat) (hs:s.length<=65536):Wp (zC s) fun v=>∃z b,v=.tup [.int .i64 z,.bool b]/\True:=by
 have loop:∀(f i:Nat) (x:Int),i<=s.length->s.length-i<f->Wp (zBL f x (Int.ofNat (s.map fun b=>AV.int IntKind.u8 (Int.ofNat b)).length) (Int.ofNat i) (s.map fun b=>AV.int IntKind.u8 (Int.ofNat b))) fun v=>∃z b,v=.tup [.int .i64 z,.bool b]/\True:=by
  intro f
  induction f with
  | zero=>intro i x _ h;omega
  | succ f ih=>
   intro i x hi hf;rw [zF7];refine Wp.ite (fun hlt=>?_) fun _=>Wp.mk ⟨_,_,rfl,trivial⟩
   have hlt:i<s.length:=by rw [List.length_map,Int.ofNat_eq_natCast,Int.ofNat_eq_natCast] at hlt;omega
   refine zOX hlt (qk_u (zMN hlt) (Wp.ite (fun _=>Wp.mk ⟨_,_,rfl,trivial⟩) fun _=>Wp.ite (fun _=>Wp.mk ⟨_,_,rfl,trivial⟩) fun _=>?_))
   rw [zGc,zo (by omega)]
   exact ih (i+1) _ hlt (by omega)
 have j0:Wp (zCe s) fun v=>∃z b,v=.tup [.int .i64 z,.bool b]/\True:=by
  rw [zGd];exact loop FUEL 0 _ (Nat.zero_le _) (z0 (by omega))
 rw [zHM];refine Wp.if (fun _=>Wp.mk ⟨_,_,rfl,trivial⟩) fun h=>?_
 have h0:0<s.length:=by
  cases s with
  | nil=>cases h
  | cons a r=>exact Nat.succ_pos _
 refine Wp.bd (R:=fun _=>True) ⟨_,zAW (i:=0) h0,trivial⟩ fun c _=>Wp.if (fun _=>Wp.ite (fun _=>Wp.mk ⟨_,_,rfl,trivial⟩) fun _=>j0) fun _=>j0
theorem zS0 (s:List Nat) (l:List (List Nat)) (hl:l.length<=1000):Wp (z4 (l.map .str) s) isE:=by
 have loop:∀(f i:Nat),i<=l.length->l.length-i<f->Wp (zT f (l.map .str) s (Int.ofNat l.length) (Int.ofNat i)) isE:=by
  intro f
  induction f with
  | zero=>intro i _ h;omega
  | succ f ih=>
   intro i hi hf;rw [zBR];refine Wp.lt (fun hlt=>qk_s (zHi hlt) (Wp.if (fun _=>Wp.mk ⟨_,rfl,trivial⟩) fun _=>?_)) fun _=>Wp.mk ⟨_,rfl,trivial⟩
   rw [zo (by omega)]
   exact ih (i+1) hlt (by omega)
 rw [zCq,List.length_map];exact loop FUEL 0 (Nat.zero_le _) (z0 (by omega))
theorem zUK (s:List Nat):Wp (zCP s) isE:=by
 rw [zJh];refine zMO zDZ (wk_i (zS0 s [[102,114,101,101],[98,97,116,99,104],[112,114,111,100],[109,111,110,105,116,111,114,105,110,103]] (by decide)) fun z _=>Wp.mk ⟨_,rfl,trivial⟩)
theorem zP9:Nds []:=⟨fun e he=>(by cases he),by decide⟩
theorem zI6:Nds [ndAV (Int.ofNat 1) [] [] (Int.ofNat 0) (Int.negSucc 0) (Int.negSucc 0)]:=⟨fun e he=>by
 rw [List.mem_singleton.1 he];exact ⟨_,_,_,_,_,_,rfl,by decide,by decide,zC0 _,zC0 _⟩,by decide⟩
abbrev BT (v:List Nat):Prop:=v.length<=65536/\∀c∈v,c<256
def RdW (o:Option (AV×Heap×Vecs)):Prop:=∃(ok:Bool) (k:Int) (n:List Nat) (u:List Nat) (b:Int) (c:Int) (d:Int) (i_:List Nat) (x1:Int) (x2:Int) (x3:Int) (x4:Int) (r:List AV) (ba:Int) (v:List Nat),o=some (.bool ok,[(0,.cells false [.int .i64 k,.str n,.str u,.int .i64 b,.int .i64 c,.int .i64 d,.str i_,.int .i64 x1,.int .i64 x2,.int .i64 x3,.int .i64 x4,.lst 6 r,.int .i64 ba,.str v])],[])/\Nds r/\BT v
section
variable {k:Int} {n:List Nat} {u:List Nat} {b:Int} {c:Int} {d:Int} {i_:List Nat} {x1:Int} {x2:Int} {x3:Int} {x4:Int} {r:List AV} {ba:Int} {v:List Nat} (hr:Nds r) (hv:BT v)
theorem zUL (hr:Nds r) (hv:BT v):RdW (zBk k n u b c d i_ x1 x2 x3 x4 r ba v):=by
 rw [zFI];obtain ⟨_,e,x,rfl,_⟩:=zB3 v;rw [e];exact ⟨_,_,_,_,_,_,_,_,_,_,_,_,_,_,_,rfl,hr,hv⟩
theorem zWa (hr:Nds r) (hv:BT v):RdW (zCf k n u b c d i_ x1 x2 x3 x4 r ba v):=by
 rw [zGe];obtain ⟨_,e,x,rfl,_⟩:=zB3 v;rw [e];exact ⟨_,_,_,_,_,_,_,_,_,_,_,_,_,_,_,rfl,hr,hv⟩
theorem zUM (hr:Nds r) (hv:BT v):RdW (zBl k n u b c d i_ x1 x2 x3 x4 r ba v):=by
 rw [zFJ];obtain ⟨_,e,x,rfl,_⟩:=zUK v;rw [e,ek_i];exact ⟨_,_,_,_,_,_,_,_,_,_,_,_,_,_,_,rfl,hr,hv⟩
theorem zUN (hr:Nds r) (hv:BT v):RdW (zBp k n u b c d i_ x1 x2 x3 x4 r ba v):=by
 rw [zFM];obtain ⟨_,e,hp⟩:=zJG v hv.2;rw [e];rcases hp with ⟨x,y,rfl,_⟩ | ⟨l,rfl,hw,hl⟩
 ·exact ⟨_,_,_,_,_,_,_,_,_,_,_,_,_,_,_,rfl,zP9,hv⟩
 ·exact ⟨_,_,_,_,_,_,_,_,_,_,_,_,_,_,_,rfl,zOg hw hl,hv⟩
theorem zJ3 (hr:Nds r) (hv:BT v):RdW (zDn k n u b c d i_ x1 x2 x3 x4 r ba v):=by
 rw [zER];obtain ⟨_,e,z,x,rfl,_⟩:=zEd v hv.1;rw [e,zGk];exact ⟨_,_,_,_,_,_,_,_,_,_,_,_,_,_,_,rfl,hr,hv⟩
theorem zIG (hr:Nds r) (hv:BT v):RdW (zCr k n u b c d i_ x1 x2 x3 x4 r ba v):=by
 rw [zDD];obtain ⟨_,e,z,x,rfl,_⟩:=zEd v hv.1;rw [e,zGk];exact ⟨_,_,_,_,_,_,_,_,_,_,_,_,_,_,_,rfl,hr,hv⟩
theorem zIH (hr:Nds r) (hv:BT v):RdW (zCs k n u b c d i_ x1 x2 x3 x4 r ba v):=by
 rw [zDE];obtain ⟨_,e,z,x,rfl,_⟩:=zEd v hv.1;rw [e,zGk];exact ⟨_,_,_,_,_,_,_,_,_,_,_,_,_,_,_,rfl,hr,hv⟩
theorem zII (hr:Nds r) (hv:BT v):RdW (zCt k n u b c d i_ x1 x2 x3 x4 r ba v):=by
 rw [zDF];obtain ⟨_,e,z,x,rfl,_⟩:=zEd v hv.1;rw [e,zGk];exact ⟨_,_,_,_,_,_,_,_,_,_,_,_,_,_,_,rfl,hr,hv⟩
theorem zKR (hr:Nds r) (hv:BT v):RdW (zDQ k n u b c d i_ x1 x2 x3 x4 r ba v):=by
 rw [zFa];obtain ⟨_,e,z,x,rfl,_⟩:=zEd v hv.1;rw [e,zGk];exact ⟨_,_,_,_,_,_,_,_,_,_,_,_,_,_,_,rfl,hr,hv⟩
theorem zI7 (hr:Nds r) (hv:BT v):RdW (zCQ k n u b c d i_ x1 x2 x3 x4 r ba v):=by
 rw [zD0];obtain ⟨_,e,z,x,rfl,_⟩:=zEd v hv.1;rw [e,zGk];exact ⟨_,_,_,_,_,_,_,_,_,_,_,_,_,_,_,rfl,hr,hv⟩
theorem zI8 (hr:Nds r) (hv:BT v):RdW (zCR k n u b c d i_ x1 x2 x3 x4 r ba v):=by
 rw [zD1];obtain ⟨_,e,z,x,rfl,_⟩:=zEd v hv.1;rw [e,zGk];exact ⟨_,_,_,_,_,_,_,_,_,_,_,_,_,_,_,rfl,hr,hv⟩
theorem zS1 (hr:Nds r) (hv:BT v):RdW (zAX k n u b c d i_ x1 x2 x3 x4 r ba v):=by
 rw [zFb];obtain ⟨ok,k',n',u',b',c',d',i_',x1',x2',x3',x4',r',ba',v',e,hr',hv'⟩:=zKR (k:=k) (n:=n) (u:=u) (b:=b) (c:=c) (d:=d) (i_:=i_) (x1:=x1) (x2:=x2) (x3:=x3) (x4:=x4) (ba:=ba) hr hv;rw [e,z3];exact ⟨_,_,_,_,_,_,_,_,_,_,_,_,_,_,_,rfl,hr',hv'⟩
theorem zUO (hr:Nds r) (hv:BT v):RdW (zBm k n u b c d i_ x1 x2 x3 x4 r ba v):=by
 rw [zFK];obtain ⟨ok,k',n',u',b',c',d',i_',x1',x2',x3',x4',r',ba',v',e,hr',hv'⟩:=zI7 (k:=k) (n:=n) (u:=u) (b:=b) (c:=c) (d:=d) (i_:=i_) (x1:=x1) (x2:=x2) (x3:=x3) (x4:=x4) (ba:=ba) hr hv;rw [e,z3];exact ⟨_,_,_,_,_,_,_,_,_,_,_,_,_,_,_,rfl,hr',hv'⟩
theorem zS2 (hr:Nds r) (hv:BT v):RdW (zA0 k n u b c d i_ x1 x2 x3 x4 r ba v):=by
 rw [zFd];obtain ⟨ok,k',n',u',b',c',d',i_',x1',x2',x3',x4',r',ba',v',e,hr',hv'⟩:=zI8 (k:=k) (n:=n) (u:=u) (b:=b) (c:=c) (d:=d) (i_:=i_) (x1:=x1) (x2:=x2) (x3:=x3) (x4:=x4) (ba:=ba) hr hv;rw [e,z3];exact ⟨_,_,_,_,_,_,_,_,_,_,_,_,_,_,_,rfl,hr',hv'⟩
theorem zVJ (hr:Nds r) (hv:BT v):RdW (zBM k n u b c d i_ x1 x2 x3 x4 r ba v):=by
 rw [zF8];obtain ⟨ok,k',n',u',b',c',d',i_',x1',x2',x3',x4',r',ba',v',e,hr',hv'⟩:=zJ3 (k:=k) (n:=n) (u:=u) (b:=b) (c:=c) (d:=d) (i_:=i_) (x1:=x1) (x2:=x2) (x3:=x3) (x4:=x4) (ba:=ba) hr hv;rw [e,z3];exact ⟨_,_,_,_,_,_,_,_,_,_,_,_,_,_,_,rfl,hr',hv'⟩
theorem zVK (hr:Nds r) (hv:BT v):RdW (zBN k n u b c d i_ x1 x2 x3 x4 r ba v):=by
 rw [zF9];obtain ⟨ok,k',n',u',b',c',d',i_',x1',x2',x3',x4',r',ba',v',e,hr',hv'⟩:=zIG (k:=k) (n:=n) (u:=u) (b:=b) (c:=c) (d:=d) (i_:=i_) (x1:=x1) (x2:=x2) (x3:=x3) (x4:=x4) (ba:=ba) hr hv;rw [e,z3];exact ⟨_,_,_,_,_,_,_,_,_,_,_,_,_,_,_,rfl,hr',hv'⟩
theorem zUP (hr:Nds r) (hv:BT v):RdW (zBn k n u b c d i_ x1 x2 x3 x4 r ba v):=by
 rw [zFL];obtain ⟨ok,k',n',u',b',c',d',i_',x1',x2',x3',x4',r',ba',v',e,hr',hv'⟩:=zIH (k:=k) (n:=n) (u:=u) (b:=b) (c:=c) (d:=d) (i_:=i_) (x1:=x1) (x2:=x2) (x3:=x3) (x4:=x4) (ba:=ba) hr hv;rw [e,z3];exact ⟨_,_,_,_,_,_,_,_,_,_,_,_,_,_,_,rfl,hr',hv'⟩
theorem zS3 (hr:Nds r) (hv:BT v):RdW (zAY k n u b c d i_ x1 x2 x3 x4 r ba v):=by
 rw [zFc];obtain ⟨ok,k',n',u',b',c',d',i_',x1',x2',x3',x4',r',ba',v',e,hr',hv'⟩:=zII (k:=k) (n:=n) (u:=u) (b:=b) (c:=c) (d:=d) (i_:=i_) (x1:=x1) (x2:=x2) (x3:=x3) (x4:=x4) (ba:=ba) hr hv;rw [e,z3];exact ⟨_,_,_,_,_,_,_,_,_,_,_,_,_,_,_,rfl,hr',hv'⟩
end
theorem zFH (x l m:Int):Wp (zAx x l m) isB:=by
 rw [zHU];exact Wp.if (fun _=>Wp.mk ⟨_,rfl,trivial⟩) fun _=>Wp.mk ⟨_,rfl,trivial⟩
theorem zS4 (r:List AV) (hr:Nds r):Wp (zBq r) isB:=by
 rw [zIv];exact zP2 zAP (wk_b (zF3 r _ hr zI6) fun x _=>Wp.mk ⟨_,rfl,trivial⟩)
theorem zV (t:Bool):Wp (zh t) isE:=by
 rw [zEl];exact Wp.if (fun _=>Wp.mk ⟨_,rfl,trivial⟩) fun _=>Wp.mk ⟨_,rfl,trivial⟩
section
variable {k:Int} {n:List Nat} {u:List Nat} {b:Int} {c:Int} {d:Int} {i_:List Nat} {x1:Int} {x2:Int} {x3:Int} {x4:Int} {r:List AV} {ba:Int}
theorem zS5 (t:Bool) (hr:Nds r):Wp (zAh t k n u b c d i_ x1 x2 x3 x4 r ba) isE:=by
 rw [zGE];exact Wp.if (fun _=>wk_i (zG9 r hr) fun z _=>Wp.if (fun _=>Wp.if (fun _=>zV _) fun _=>wk_b (zB3 i_) fun x _=>Wp.if (fun _=>wk_b (zS4 r hr) fun x _=>zV _) fun _=>zV _) fun _=>zV _) fun _=>zV _
theorem zS6 (t:Bool) (hr:Nds r):Wp (zBy t k n u b c d i_ x1 x2 x3 x4 r ba) isE:=by
 rw [zGG];have j2:=fun t=>zS5 (k:=k) (n:=n) (u:=u) (b:=b) (c:=c) (d:=d) (i_:=i_) (x1:=x1) (x2:=x2) (x3:=x3) (x4:=x4) (ba:=ba) t hr
 refine Wp.if (fun _=>Wp.if (fun _=>wk_b (zB3 u) fun x _=>Wp.if (fun _=>wk_b (zFH ..) fun x _=>Wp.if (fun _=>wk_b (zFH ..) fun x _=>Wp.if (fun _=>wk_b (zFH ..) fun x _=>Wp.if (fun _=>j2 _) fun _=>j2 _) fun _=>j2 _) fun _=>j2 _) fun _=>j2 _) fun _=>j2 _) fun _=>Wp.if (fun _=>Wp.if (fun _=>wk_b (zB3 u) fun x _=>Wp.if (fun _=>wk_b (zFH ..) fun x _=>Wp.if (fun _=>wk_b (zFH ..) fun x _=>Wp.if (fun _=>Wp.if (fun _=>Wp.if (fun _=>Wp.if (fun _=>wk_i (zG9 r hr) fun z _=>zV _) fun _=>zV _) fun _=>zV _) fun _=>zV _) fun _=>zV _) fun _=>zV _) fun _=>zV _) fun _=>zV _) fun _=>Wp.if (fun _=>Wp.if (fun _=>Wp.if (fun _=>Wp.if (fun _=>Wp.if (fun _=>Wp.if (fun _=>Wp.if (fun _=>Wp.if (fun _=>wk_b (zFH ..) fun x _=>zV _) fun _=>zV _) fun _=>zV _) fun _=>zV _) fun _=>zV _) fun _=>zV _) fun _=>zV _) fun _=>zV _) fun _=>zV _
theorem zQO (hr:Nds r):Wp (zAv k n u b c d i_ x1 x2 x3 x4 r ba) isE:=by
 rw [zIw];have j0:=fun t=>zS6 (k:=k) (n:=n) (u:=u) (b:=b) (c:=c) (d:=d) (i_:=i_) (x1:=x1) (x2:=x2) (x3:=x3) (x4:=x4) (ba:=ba) t hr
 exact wk_b (zB3 n) fun x _=>Wp.if (fun _=>qk_i (zI3 x1 x2 x3 x4) (Wp.if (fun _=>j0 _) fun _=>j0 _)) fun _=>j0 _
end
theorem zVL (z:Int) (s:List Nat):Wp (zc z s) isB:=by
 have j2:∀a t x,Wp (zFn a t x) isB:=fun a t x=>by
  rw [zi]
  repeat' first | exact Wp.mk ⟨_,rfl,trivial⟩ | refine Wp.if (fun _=>?_) fun _=>?_
 have j1:∀a t x,Wp (zCz a t x) isB:=fun a t x=>by
  rw [zj]
  repeat' first | exact Wp.mk ⟨_,rfl,trivial⟩ | exact j2 _ _ _ | refine Wp.if (fun _=>?_) fun _=>?_
 have j0:∀a t x,Wp (zCA a t x) isB:=fun a t x=>by
  rw [zk]
  repeat' first | exact Wp.mk ⟨_,rfl,trivial⟩ | exact j1 _ _ _ | refine Wp.if (fun _=>?_) fun _=>?_
 rw [zn]
 repeat' first | exact j0 _ _ _ | refine Wp.if (fun _=>?_) fun _=>?_
theorem zO7 (c:Nat):∀s:List Nat,(cut1 c s).1.length<=s.length/\(cut1 c s).2.1.length<=s.length
 | []=>⟨Nat.le_refl _,Nat.le_refl _⟩
 | x::r=>by
  have ih:=zO7 c r;unfold cut1;split
  ·exact ⟨Nat.zero_le _,Nat.le_succ _⟩
  ·revert ih
   rcases cut1 c r with ⟨a,b,f⟩
   intro ih;exact ⟨Nat.succ_le_succ ih.1,Nat.le_succ_of_le ih.2⟩
theorem zO8 (c:Nat):∀s:List Nat,∀x∈(cut1 c s).2.1,x∈s
 | [],x,h=>h
 | y::r,x,h=>by
  have ih:=zO8 c r x;unfold cut1 at h;split at h
  ·exact .tail _ h
  ·revert ih h
   rcases cut1 c r with ⟨a,b,f⟩
   intro ih h;exact .tail _ (ih h)
theorem zS7 (s:List Nat) (hs:BT s):Wp (zK s) fun v=>∃x y z,v=.tup [.str x,.str y,.bool z]/\BT y:=by
 have j0:∀x y z,BT y->Wp (zDW x y z) fun v=>∃x y z,v=.tup [.str x,.str y,.bool z]/\BT y:=fun x y z h=>by
  rw [zEj];exact Wp.mk ⟨_,_,_,rfl,h⟩
 have j1:∀x y z t,BT y->(t=true->2<=y.length)->Wp (zBw x y z t) fun v=>∃x y z,v=.tup [.str x,.str y,.bool z]/\BT y:=fun x y z t h h2=>by
  rw [zEk];refine Wp.if (fun ht=>?_) fun _=>j0 _ _ _ h
  have:=h2 ht;have hy:=h.1;have e:wrapx .i64 (Int.ofNat y.length-1)=Int.ofNat (y.length-1):=zCE (by omega) (by omega)
  rw [e];refine Wp.gd ⟨by decide,by rw [Int.ofNat_eq_natCast];omega,by rw [Int.ofNat_eq_natCast,Int.ofNat_eq_natCast];omega⟩ (j0 _ _ _ ⟨?_,fun c hc=>h.2 c (List.take_subset _ _ (List.drop_subset _ _ hc))⟩)
  rw [List.length_drop,List.length_take];omega
 rw [zF6];have hc:zGH s [61]=some (.tup [.str (cut1 61 s).1,.str (cut1 61 s).2.1,.bool (cut1 61 s).2.2]):=by
  show (match Nat.blt s.length 4294967281&&Nat.blt 61 256 with
   | true=>some (AV.tup [.str (cut1 61 s).1,.str (cut1 61 s).2.1,.bool (cut1 61 s).2.2])
   | false=>none)=_
  rw [show Nat.blt s.length 4294967281=true from by rw [Nat.blt_eq];have:=hs.1;omega]
  rfl
 have hl:=(zO7 61 s).2;have h0:=hs.1;have hB:BT (cut1 61 s).2.1:=⟨by omega,fun c hc=>hs.2 c (zO8 61 s c hc)⟩
 refine zAJ hc (Wp.ite (fun h=>?_) fun _=>j1 _ _ _ _ hB fun h=>by cases h)
 rw [Int.ofNat_eq_natCast] at h;have e:wrapx .i64 (Int.ofNat (cut1 61 s).2.1.length-1)=Int.ofNat ((cut1 61 s).2.1.length-1):=zCE (by omega) (by omega)
 rw [e];refine Wp.bd (R:=fun _=>True) ⟨_,zAW (i:=0) (show 0<(cut1 61 s).2.1.length by omega),trivial⟩ fun a _=>Wp.if (fun _=>Wp.bd (R:=fun _=>True) ⟨_,zAW (show (cut1 61 s).2.1.length-1<(cut1 61 s).2.1.length by omega),trivial⟩ fun a _=>j1 _ _ _ _ hB fun _=>by omega) fun _=>j1 _ _ _ _ hB fun h=>by cases h
def mapN (ns:List (List Nat)):List (AV×AV):=ns.map fun s=>(.str s,.bool true)
theorem zIJ (s:List Nat):∀ns:List (List Nat),mfind false [Kd.s] (.str s) (mapN ns)=if s∈ns then some (some (.bool true)) else some none
 | []=>rfl
 | t::ns=>by
  have h:=zIJ s ns;show (match some (seqb s t) with
   | some true=>some (some (AV.bool true))
   | some false=>mfind false [Kd.s] (.str s) (mapN ns)
   | none=>none)=_
  rw [zGi];by_cases e:s=t
  ·subst e;simp
  ·simp only [e,decide_false,List.mem_cons,false_or];exact h
theorem zMQ (s:List Nat):∀ns:List (List Nat),∃ns',mput false [Kd.s] (.str s) (.bool true) (mapN ns)=some (mapN ns')
 | []=>⟨[s],rfl⟩
 | t::ns=>by
  obtain ⟨ns',h⟩:=zMQ s ns;by_cases e:s=t
  ·subst e;refine ⟨s::ns,?_⟩
   show (match some (seqb s s) with
    | some true=>some ((AV.str s,AV.bool true)::mapN ns)
    | some false=>match mput false [Kd.s] (.str s) (.bool true) (mapN ns) with
     | some r'=>some ((AV.str s,AV.bool true)::r')
     | none=>none
    | none=>none)=_
   rw [zD4];rfl
  ·refine ⟨t::ns',?_⟩
   show (match some (seqb s t) with
    | some true=>some ((AV.str s,AV.bool true)::mapN ns)
    | some false=>match mput false [Kd.s] (.str s) (.bool true) (mapN ns) with
     | some r'=>some ((AV.str t,AV.bool true)::r')
     | none=>none
    | none=>none)=_
   rw [zGi];simp only [e,decide_false,h];rfl
theorem zUQ (s:List Nat) (ns:List (List Nat)):∃x,lkR false (AV.bool false) (mfind false [Kd.s] (.str s) (mapN ns))=some (.bool x):=by
 rw [zIJ];split
 ·exact ⟨true,rfl⟩
 ·exact ⟨false,rfl⟩
def zO9 (a:AV):Prop:=∃(k:Int) (n:List Nat) (u:List Nat) (b:Int) (c:Int) (d:Int) (i_:List Nat) (x1:Int) (x2:Int) (x3:Int) (x4:Int) (r:List AV) (ba:Int),a=.agg [.int .i64 k,.str n,.str u,.int .i64 b,.int .i64 c,.int .i64 d,.str i_,.int .i64 x1,.int .i64 x2,.int .i64 x3,.int .i64 x4,.lst 6 r,.int .i64 ba]/\Nds r/\zAv k n u b c d i_ x1 x2 x3 x4 r ba=some (.int .i64 0)
def zQP:AV:=.agg [.int .i64 0,.str [],.str [],.int .i64 0,.int .i64 0,.int .i64 0,.str [],.int .i64 0,.int .i64 0,.int .i64 0,.int .i64 0,.lst 6 [],.int .i64 0]
def LineR.enc (base:Int):Except Int AV->AV
 | .error p=>.tup [zQP,.agg [.int .i64 5,.int .i64 (base+p)]]
 | .ok a=>.tup [a,.agg [.int .i64 0,.int .i64 0]]
def LineR.Ok (m:Nat):Except Int AV->Prop
 | .error p=>0<=p/\p<=m
 | .ok a=>zO9 a
def RL (m:Nat) (base:Int) (o o0:Option AV):Prop:=∃q,LineR.Ok m q/\o=some (LineR.enc base q)/\o0=some (LineR.enc 0 q)
section
variable {m:Nat} {base:Int}
theorem zJI {β:Type} {R:Option β->Option β->Prop} {us:List Wd} {i:Nat} (hi:i<us.length) {f f0:List Nat->Int->Option β} (k:R (f us[i].1 (base+us[i].2)) (f0 us[i].1 (0+us[i].2))):
  R (dK true [K.agg 2,K.s,K.i IntKind.i64] (ixN (wds base us) (Int.ofNat i)) f) (dK true [K.agg 2,K.s,K.i IntKind.i64] (ixN (wds 0 us) (Int.ofNat i)) f0):=by
 unfold wds;rw [zHi hi,zHi hi];exact k
noncomputable abbrev badF (a:Int):Option AV:=dK true [K.tup 2,K.agg 13,K.i IntKind.i64,K.s,K.s,K.i IntKind.i64,K.i IntKind.i64,K.i IntKind.i64,K.s,K.i IntKind.i64,K.i IntKind.i64,K.i IntKind.i64,K.i IntKind.i64,K.l 6,K.i IntKind.i64,K.agg 2,K.i IntKind.i64,K.i IntKind.i64] (zl a) fun a1 a2 a3 a4 a5 a6 a7 a8 a9 a10 a11 a12 a13 a14 a15=>some (AV.tup [AV.agg [AV.int IntKind.i64 a1,AV.str a2,AV.str a3,AV.int IntKind.i64 a4,AV.int IntKind.i64 a5,AV.int IntKind.i64 a6,AV.str a7,AV.int IntKind.i64 a8,AV.int IntKind.i64 a9,AV.int IntKind.i64 a10,AV.int IntKind.i64 a11,AV.lst 6 a12,AV.int IntKind.i64 a13],AV.agg [AV.int IntKind.i64 a14,AV.int IntKind.i64 a15]])
theorem zLh {p:Int} (h0:0<=p) (h1:p<=m):RL m base (badF (base+p)) (badF (0+p)):=by
 refine ⟨.error p,⟨h0,h1⟩,?_,?_⟩
 ·unfold badF;rw [zHL];rfl
 ·unfold badF;rw [zHL];rfl
theorem zCd {R:Option AV->Option AV->Prop} {J J0:Bool->Option AV} (hJ:∀t,R (J t) (J0 t)) (b1:Bool) (s:List Nat) (ns:List (List Nat)) (z:Int):
  R (br (!b1) (J true) (dK true [K.b] (lkR false (AV.bool false) (mfind false [Kd.s] (AV.str s) (mapN ns))) fun b2=>br b2 (J true) (dK true [K.b] (zc z s) fun b3=>J (!b3)))) (br (!b1) (J0 true) (dK true [K.b] (lkR false (AV.bool false) (mfind false [Kd.s] (AV.str s) (mapN ns))) fun b2=>br b2 (J0 true) (dK true [K.b] (zc z s) fun b3=>J0 (!b3)))):=by
 obtain ⟨x,hx⟩:=zUQ s ns;obtain ⟨_,e,y,rfl,_⟩:=zVL z s;exact R2.br (fun _=>hJ _) fun _=>rk_b hx (R2.br (fun _=>hJ _) fun _=>rk_b e (hJ _))
theorem zR0 (ws us:List Wd) (hw0:0<ws.length) (hws:∀w∈ws,w.1.length<=65536/\0<=w.2/\w.2<=m) (hus:∀w∈us,BT w.1/\0<=w.2/\w.2<=m) (hul:us.length<=100000) (e0:Int) (e1:List Nat) (e2:List Nat) (e3:Int) (e4:Int) (e5:Int) (e6:List Nat) (e7:Int) (e8:Int) (e9:Int) (e10:Int) (e12:Int) (g0:Int) (g1:Int):∀(f i:Nat) (k:Int) (n:List Nat) (u:List Nat) (b:Int) (c:Int) (d:Int) (i_:List Nat) (x1:Int) (x2:Int) (x3:Int) (x4:Int) (r:List AV) (ba:Int) (v:List Nat) (ns:List (List Nat)),i<=us.length->us.length-i<f->Nds r->BT v →
  RL m base (zd f (wds base ws) (wds base us) (Int.ofNat us.length) (Int.ofNat i) k n u b c d i_ x1 x2 x3 x4 r ba v e0 e1 e2 e3 e4 e5 e6 e7 e8 e9 e10 e12 g0 g1 (mapN ns)) (zd f (wds 0 ws) (wds 0 us) (Int.ofNat us.length) (Int.ofNat i) k n u b c d i_ x1 x2 x3 x4 r ba v e0 e1 e2 e3 e4 e5 e6 e7 e8 e9 e10 e12 g0 g1 (mapN ns)):=by
 intro f
 induction f with
 | zero=>intro i k n u b c d i_ x1 x2 x3 x4 r ba v ns _ hh;omega
 | succ f ih=>
  intro i k n u b c d i_ x1 x2 x3 x4 r ba v ns hi hf hr hv;rw [zt,zt];refine R2.ite (fun hlt=>?_) fun _=>?_
  ·have hlt:i<us.length:=by rw [Int.ofNat_eq_natCast,Int.ofNat_eq_natCast] at hlt;omega
   have hw:=hus _ (List.getElem_mem hlt);refine zJI hlt ?_
   generalize us[i].1=s at hw ⊢;generalize us[i].2=p at hw ⊢;obtain ⟨_,ev,s4,s5,b1,rfl,hs5⟩:=zS7 s hw.1;refine zSW ev (zVD zX ?_)
   have bad:RL m base (badF (base+p)) (badF (0+p)):=zLh hw.2.1 hw.2.2;have tail:∀{o:Option (AV×Heap×Vecs)},RdW o->RL m base (bd (mput false [Kd.s] (AV.str s4) (AV.bool true) (mapN ns)) fun x=>dD true [D.v K.b,D.hc 0 false 14,D.v (K.i IntKind.i64),D.v K.s,D.v K.s,D.v (K.i IntKind.i64),D.v (K.i IntKind.i64),D.v (K.i IntKind.i64),D.v K.s,D.v (K.i IntKind.i64),D.v (K.i IntKind.i64),D.v (K.i IntKind.i64),D.v (K.i IntKind.i64),D.v (K.l 6),D.v (K.i IntKind.i64),D.v K.s] o fun ok k' n' u' b' c' d' i_' x1' x2' x3' x4' r' ba' v'=>br (!ok) (badF (base+p)) (zd f (wds base ws) (wds base us) (Int.ofNat us.length) (wrapx .i64 (Int.ofNat i+1)) k' n' u' b' c' d' i_' x1' x2' x3' x4' r' ba' v' e0 e1 e2 e3 e4 e5 e6 e7 e8 e9 e10 e12 g0 g1 x)) (bd (mput false [Kd.s] (AV.str s4) (AV.bool true) (mapN ns)) fun x=>dD true [D.v K.b,D.hc 0 false 14,D.v (K.i IntKind.i64),D.v K.s,D.v K.s,D.v (K.i IntKind.i64),D.v (K.i IntKind.i64),D.v (K.i IntKind.i64),D.v K.s,D.v (K.i IntKind.i64),D.v (K.i IntKind.i64),D.v (K.i IntKind.i64),D.v (K.i IntKind.i64),D.v (K.l 6),D.v (K.i IntKind.i64),D.v K.s] o fun ok k' n' u' b' c' d' i_' x1' x2' x3' x4' r' ba' v'=>br (!ok) (badF (0+p)) (zd f (wds 0 ws) (wds 0 us) (Int.ofNat us.length) (wrapx .i64 (Int.ofNat i+1)) k' n' u' b' c' d' i_' x1' x2' x3' x4' r' ba' v' e0 e1 e2 e3 e4 e5 e6 e7 e8 e9 e10 e12 g0 g1 x)):=fun {o} ho=>by
    obtain ⟨ns',hm⟩:=zMQ s4 ns;obtain ⟨ok,k',n',u',b',c',d',i_',x1',x2',x3',x4',r',ba',v',e,hr',hv'⟩:=ho;refine R2.bd hm (zI1 e (R2.br (fun _=>bad) fun _=>?_))
    rw [zo (by omega)]
    exact ih (i+1) k' n' u' b' c' d' i_' x1' x2' x3' x4' r' ba' v' ns' hlt (by omega) hr' hv'
   have J0:∀t,RL m base (zB5 f (wds base ws) s4 s5 (wds base us) (Int.ofNat us.length) (Int.ofNat i) t k n u b c d i_ x1 x2 x3 x4 r ba v s (base+p) e0 e1 e2 e3 e4 e5 e6 e7 e8 e9 e10 e12 g0 g1 (mapN ns)) (zB5 f (wds 0 ws) s4 s5 (wds 0 us) (Int.ofNat us.length) (Int.ofNat i) t k n u b c d i_ x1 x2 x3 x4 r ba v s (0+p) e0 e1 e2 e3 e4 e5 e6 e7 e8 e9 e10 e12 g0 g1 (mapN ns)):=fun t=>by
    rw [zEX,zEX];refine R2.br (fun _=>bad) fun _=>?_
    rw [zEW,zEW];exact tail (zUL hr hs5)
   have J1:∀t,RL m base (zB6 f (wds base ws) s4 s5 (wds base us) (Int.ofNat us.length) (Int.ofNat i) t k n u b c d i_ x1 x2 x3 x4 r ba v s (base+p) e0 e1 e2 e3 e4 e5 e6 e7 e8 e9 e10 e12 g0 g1 (mapN ns)) (zB6 f (wds 0 ws) s4 s5 (wds 0 us) (Int.ofNat us.length) (Int.ofNat i) t k n u b c d i_ x1 x2 x3 x4 r ba v s (0+p) e0 e1 e2 e3 e4 e5 e6 e7 e8 e9 e10 e12 g0 g1 (mapN ns)):=fun t=>by
    rw [zEZ,zEZ];refine R2.br (fun _=>bad) fun _=>?_
    rw [zEY,zEY];exact tail (zUM hr hs5)
   have J2:∀t,RL m base (zB7 f (wds base ws) s4 s5 (wds base us) (Int.ofNat us.length) (Int.ofNat i) t k n u b c d i_ x1 x2 x3 x4 r ba v s (base+p) e0 e1 e2 e3 e4 e5 e6 e7 e8 e9 e10 e12 g0 g1 (mapN ns)) (zB7 f (wds 0 ws) s4 s5 (wds 0 us) (Int.ofNat us.length) (Int.ofNat i) t k n u b c d i_ x1 x2 x3 x4 r ba v s (0+p) e0 e1 e2 e3 e4 e5 e6 e7 e8 e9 e10 e12 g0 g1 (mapN ns)):=fun t=>by
    rw [zE1,zE1];refine R2.br (fun _=>bad) fun _=>?_
    rw [zE0,zE0];exact tail (zS1 hr hs5)
   have J3:∀t,RL m base (zB8 f (wds base ws) s4 s5 (wds base us) (Int.ofNat us.length) (Int.ofNat i) t k n u b c d i_ x1 x2 x3 x4 r ba v s (base+p) e0 e1 e2 e3 e4 e5 e6 e7 e8 e9 e10 e12 g0 g1 (mapN ns)) (zB8 f (wds 0 ws) s4 s5 (wds 0 us) (Int.ofNat us.length) (Int.ofNat i) t k n u b c d i_ x1 x2 x3 x4 r ba v s (0+p) e0 e1 e2 e3 e4 e5 e6 e7 e8 e9 e10 e12 g0 g1 (mapN ns)):=fun t=>by
    rw [zE3,zE3];refine R2.br (fun _=>bad) fun _=>?_
    rw [zE2,zE2];exact tail (zUO hr hs5)
   have J4:∀t,RL m base (zBz f (wds base ws) s4 s5 (wds base us) (Int.ofNat us.length) (Int.ofNat i) t k n u b c d i_ x1 x2 x3 x4 r ba v s (base+p) e0 e1 e2 e3 e4 e5 e6 e7 e8 e9 e10 e12 g0 g1 (mapN ns)) (zBz f (wds 0 ws) s4 s5 (wds 0 us) (Int.ofNat us.length) (Int.ofNat i) t k n u b c d i_ x1 x2 x3 x4 r ba v s (0+p) e0 e1 e2 e3 e4 e5 e6 e7 e8 e9 e10 e12 g0 g1 (mapN ns)):=fun t=>by
    rw [zEn,zEn];refine R2.br (fun _=>bad) fun _=>?_
    rw [zEm,zEm];exact tail (zWa hr hs5)
   have J5:∀t,RL m base (zBA f (wds base ws) s4 s5 (wds base us) (Int.ofNat us.length) (Int.ofNat i) t k n u b c d i_ x1 x2 x3 x4 r ba v s (base+p) e0 e1 e2 e3 e4 e5 e6 e7 e8 e9 e10 e12 g0 g1 (mapN ns)) (zBA f (wds 0 ws) s4 s5 (wds 0 us) (Int.ofNat us.length) (Int.ofNat i) t k n u b c d i_ x1 x2 x3 x4 r ba v s (0+p) e0 e1 e2 e3 e4 e5 e6 e7 e8 e9 e10 e12 g0 g1 (mapN ns)):=fun t=>by
    rw [zEp,zEp];refine R2.br (fun _=>bad) fun _=>?_
    rw [zEo,zEo];exact tail (zVJ hr hs5)
   have J6:∀t,RL m base (zBB f (wds base ws) s4 s5 (wds base us) (Int.ofNat us.length) (Int.ofNat i) t k n u b c d i_ x1 x2 x3 x4 r ba v s (base+p) e0 e1 e2 e3 e4 e5 e6 e7 e8 e9 e10 e12 g0 g1 (mapN ns)) (zBB f (wds 0 ws) s4 s5 (wds 0 us) (Int.ofNat us.length) (Int.ofNat i) t k n u b c d i_ x1 x2 x3 x4 r ba v s (0+p) e0 e1 e2 e3 e4 e5 e6 e7 e8 e9 e10 e12 g0 g1 (mapN ns)):=fun t=>by
    rw [zEr,zEr];refine R2.br (fun _=>bad) fun _=>?_
    rw [zEq,zEq];exact tail (zVK hr hs5)
   have J7:∀t,RL m base (zBC f (wds base ws) s4 s5 (wds base us) (Int.ofNat us.length) (Int.ofNat i) t k n u b c d i_ x1 x2 x3 x4 r ba v s (base+p) e0 e1 e2 e3 e4 e5 e6 e7 e8 e9 e10 e12 g0 g1 (mapN ns)) (zBC f (wds 0 ws) s4 s5 (wds 0 us) (Int.ofNat us.length) (Int.ofNat i) t k n u b c d i_ x1 x2 x3 x4 r ba v s (0+p) e0 e1 e2 e3 e4 e5 e6 e7 e8 e9 e10 e12 g0 g1 (mapN ns)):=fun t=>by
    rw [zEt,zEt];refine R2.br (fun _=>bad) fun _=>?_
    rw [zEs,zEs];exact tail (zUP hr hs5)
   have J8:∀t,RL m base (zBD f (wds base ws) s4 s5 (wds base us) (Int.ofNat us.length) (Int.ofNat i) t k n u b c d i_ x1 x2 x3 x4 r ba v s (base+p) e0 e1 e2 e3 e4 e5 e6 e7 e8 e9 e10 e12 g0 g1 (mapN ns)) (zBD f (wds 0 ws) s4 s5 (wds 0 us) (Int.ofNat us.length) (Int.ofNat i) t k n u b c d i_ x1 x2 x3 x4 r ba v s (0+p) e0 e1 e2 e3 e4 e5 e6 e7 e8 e9 e10 e12 g0 g1 (mapN ns)):=fun t=>by
    rw [zEv,zEv];refine R2.br (fun _=>bad) fun _=>?_
    rw [zEu,zEu];exact tail (zS3 hr hs5)
   have J9:∀t,RL m base (zBE f (wds base ws) s4 s5 (wds base us) (Int.ofNat us.length) (Int.ofNat i) t k n u b c d i_ x1 x2 x3 x4 r ba v s (base+p) e0 e1 e2 e3 e4 e5 e6 e7 e8 e9 e10 e12 g0 g1 (mapN ns)) (zBE f (wds 0 ws) s4 s5 (wds 0 us) (Int.ofNat us.length) (Int.ofNat i) t k n u b c d i_ x1 x2 x3 x4 r ba v s (0+p) e0 e1 e2 e3 e4 e5 e6 e7 e8 e9 e10 e12 g0 g1 (mapN ns)):=fun t=>by
    rw [zEx,zEx];refine R2.br (fun _=>bad) fun _=>?_
    rw [zEw,zEw];exact tail (zUN hr hs5)
   have J10:∀t,RL m base (zBF f (wds base ws) s4 s5 (wds base us) (Int.ofNat us.length) (Int.ofNat i) t k n u b c d i_ x1 x2 x3 x4 r ba v s (base+p) e0 e1 e2 e3 e4 e5 e6 e7 e8 e9 e10 e12 g0 g1 (mapN ns)) (zBF f (wds 0 ws) s4 s5 (wds 0 us) (Int.ofNat us.length) (Int.ofNat i) t k n u b c d i_ x1 x2 x3 x4 r ba v s (0+p) e0 e1 e2 e3 e4 e5 e6 e7 e8 e9 e10 e12 g0 g1 (mapN ns)):=fun t=>by
    rw [zEz,zEz];refine R2.br (fun _=>bad) fun _=>?_
    rw [zEy,zEy];exact tail (zS2 hr hs5)
   have J11:RL m base (zCI f (wds base ws) s4 s5 (wds base us) (Int.ofNat us.length) (Int.ofNat i) true k n u b c d i_ x1 x2 x3 x4 r ba v s (base+p) e0 e1 e2 e3 e4 e5 e6 e7 e8 e9 e10 e12 g0 g1 (mapN ns)) (zCI f (wds 0 ws) s4 s5 (wds 0 us) (Int.ofNat us.length) (Int.ofNat i) true k n u b c d i_ x1 x2 x3 x4 r ba v s (0+p) e0 e1 e2 e3 e4 e5 e6 e7 e8 e9 e10 e12 g0 g1 (mapN ns)):=by
    rw [zGF,zGF];exact bad
   exact R2.br (fun _=>zCd J0 b1 s4 ns k) fun _=>R2.br (fun _=>zCd J1 b1 s4 ns k) fun _=>R2.br (fun _=>zCd J2 b1 s4 ns k) fun _=>R2.br (fun _=>zCd J3 b1 s4 ns k) fun _=>R2.br (fun _=>zCd J4 b1 s4 ns k) fun _=>R2.br (fun _=>zCd J5 b1 s4 ns k) fun _=>R2.br (fun _=>zCd J6 b1 s4 ns k) fun _=>R2.br (fun _=>zCd J7 b1 s4 ns k) fun _=>R2.br (fun _=>zCd J8 b1 s4 ns k) fun _=>R2.br (fun _=>zCd J9 b1 s4 ns k) fun _=>R2.br (fun _=>zCd J10 b1 s4 ns k) fun _=>R2.br (fun _=>J11) fun _=>J11
  ·obtain ⟨_,e,z,rfl,_⟩:=zQO (k:=k) (n:=n) (u:=u) (b:=b) (c:=c) (d:=d) (i_:=i_) (x1:=x1) (x2:=x2) (x3:=x3) (x4:=x4) (ba:=ba) hr;refine rk_i e (R2.br (fun _=>zJI (us:=ws) (i:=0) hw0 (zLh (hws _ (List.getElem_mem hw0)).2.1 (hws _ (List.getElem_mem hw0)).2.2)) fun hz=>⟨.ok _,⟨_,_,_,_,_,_,_,_,_,_,_,_,_,rfl,hr,by rw [e,show z=0 by simpa using hz]⟩,rfl,rfl⟩)
end
end Go.Proofs.YtdeeimaahdgeaaaGreatDoor.spec
namespace Go.Proofs.YtdeeimaahdgeaaaGreatDoor.spec
open Go Go.Sy
variable [MX]
theorem zR1 {m:Nat} {base:Int} (ws:List Wd) (hw0:0<ws.length) (hwl:ws.length<=100000) (hws:∀w∈ws,BT w.1/\0<=w.2/\w.2<=m):RL m base (zAw (wds base ws)) (zAw (wds 0 ws)):=by
 have hmem:∀i (h:i<ws.length),0<=ws[i].2/\ws[i].2<=m:=fun i h=>(hws _ (List.getElem_mem h)).2
 have j1:∀(k:Int) (n u:List Nat) (b c d:Int) (i_:List Nat) (x1 x2 x3 x4:Int) (r:List AV) (ba:Int) (v:List Nat) (e0:Int) (e1 e2:List Nat) (e3 e4 e5:Int) (e6:List Nat) (e7 e8 e9 e10 e12 g0 g1:Int),Nds r->BT v->RL m base (zC6 (wds base ws) k n u b c d i_ x1 x2 x3 x4 r ba v e0 e1 e2 e3 e4 e5 e6 e7 e8 e9 e10 e12 g0 g1) (zC6 (wds 0 ws) k n u b c d i_ x1 x2 x3 x4 r ba v e0 e1 e2 e3 e4 e5 e6 e7 e8 e9 e10 e12 g0 g1):=by
  intro k n u b c d i_ x1 x2 x3 x4 r ba v e0 e1 e2 e3 e4 e5 e6 e7 e8 e9 e10 e12 g0 g1 hr hv;rw [zE4,zE4,zA3,zA3];have hmin:∃t:Nat,(if Int.ofNat ws.length<2 then Int.ofNat ws.length else 2)=Int.ofNat t/\t<=ws.length:=by
   by_cases h:Int.ofNat ws.length<2
   ·exact ⟨ws.length,by rw [if_pos h],Nat.le_refl _⟩
   ·exact ⟨2,by rw [if_neg h];rfl,by rw [Int.ofNat_eq_natCast] at h;omega⟩
  obtain ⟨t,ht,htl⟩:=hmin;rw [ht];have hd:∀bb:Int,List.drop (Int.toNat (Int.ofNat t)) (List.take (Int.toNat (Int.ofNat ws.length)) (wds bb ws))=wds bb (ws.drop t):=fun bb=>by
   show List.drop t (List.take ws.length (wds bb ws))=_
   rw [List.take_of_length_le (by rw [zA3];exact Nat.le_refl _)]
   unfold wds;rw [List.map_drop]
  rw [hd,hd,zA3,zA3];refine R2.gd ⟨Int.natCast_nonneg _,Int.ofNat_le.2 htl⟩ ?_
  have hdl:(ws.drop t).length<=ws.length:=by rw [List.length_drop];omega
  exact zR0 ws (ws.drop t) hw0 (fun w hw=>⟨(hws w hw).1.1,(hws w hw).2⟩) (fun w hw=>hws w (List.mem_of_mem_drop hw)) (by omega) e0 e1 e2 e3 e4 e5 e6 e7 e8 e9 e10 e12 g0 g1 FUEL 0 k n u b c d i_ x1 x2 x3 x4 r ba v [] (Nat.zero_le _) (z0 (by omega)) hr hv
 have j0:∀(k:Int) (n u:List Nat) (b c d:Int) (i_:List Nat) (x1 x2 x3 x4:Int) (r:List AV) (ba:Int) (v:List Nat) (e0:Int) (e1 e2:List Nat) (e3 e4 e5:Int) (e6:List Nat) (e7 e8 e9 e10 e12 g0 g1:Int),Nds r->BT v->RL m base (zA8 (wds base ws) k n u b c d i_ x1 x2 x3 x4 r ba v e0 e1 e2 e3 e4 e5 e6 e7 e8 e9 e10 e12 g0 g1) (zA8 (wds 0 ws) k n u b c d i_ x1 x2 x3 x4 r ba v e0 e1 e2 e3 e4 e5 e6 e7 e8 e9 e10 e12 g0 g1):=by
  intro k n u b c d i_ x1 x2 x3 x4 r ba v e0 e1 e2 e3 e4 e5 e6 e7 e8 e9 e10 e12 g0 g1 hr hv;rw [zE5,zE5,zA3,zA3];refine R2.ite (fun h1=>?_) fun _=>j1 _ _ _ _ _ _ _ _ _ _ _ _ _ _ _ _ _ _ _ _ _ _ _ _ _ _ _ _ hr hv
  have h1:1<ws.length:=by rw [Int.ofNat_eq_natCast] at h1;omega
  refine zJI (i:=1) h1 ?_
  obtain ⟨_,e,y,rfl,_⟩:=zB3 ws[1].1;exact rk_b e (R2.br (fun _=>zJI (i:=1) h1 (zLh (hmem 1 h1).1 (hmem 1 h1).2)) fun _=>zJI (i:=1) h1 (j1 _ _ _ _ _ _ _ _ _ _ _ _ _ _ _ _ _ _ _ _ _ _ _ _ _ _ _ _ hr hv))
 rw [zC9,zC9];refine zJI (i:=0) hw0 (R2.br (fun _=>zP3 zAP (j0 _ _ _ _ _ _ _ _ _ _ _ _ _ _ _ _ _ _ _ _ _ _ _ _ _ _ _ _ zI6 ⟨by decide,fun c hc=>by cases hc⟩)) fun _=>R2.br (fun _=>zP3 zAP (j0 _ _ _ _ _ _ _ _ _ _ _ _ _ _ _ _ _ _ _ _ _ _ _ _ _ _ _ _ zI6 ⟨by decide,fun c hc=>by cases hc⟩)) fun _=>R2.br (fun _=>j0 _ _ _ _ _ _ _ _ _ _ _ _ _ _ _ _ _ _ _ _ _ _ _ _ _ _ _ _ zP9 ⟨by decide,fun c hc=>by cases hc⟩) fun _=>zJI (i:=0) hw0 (zLh (hmem 0 hw0).1 (hmem 0 hw0).2))
inductive Ln where
 | bad (p:Int)
 | none
 | spec (a:AV)
def parse (L:List Nat->Ln):Int->List (List Nat)->Except Int (List AV)
 | _,[]=>.ok []
 | at_,s::r=>match L s with
  | .bad p=>.error (at_+p)
  | .none=>parse L (at_+(s.length+1)) r
  | .spec a=>match parse L (at_+(s.length+1)) r with
   | .ok l=>.ok (a::l)
   | .error p=>.error p
noncomputable def ln (s:List Nat):Ln:=match zBU s 0 with
 | some (.tup [.lst _ [],_])=>.none
 | some (.tup [.lst _ ws,_])=>match zAw ws with
  | some (.tup [a,.agg [.int _ e,.int _ p]])=>if e=0 then .spec a else .bad p
  | _=>.none
 | some (.tup [_,.agg [_,.int _ p]])=>.bad p
 | _=>.none
def encP:Except Int (List AV)->AV
 | .error p=>.tup [.nilslice,.agg [.int .i64 5,.int .i64 p]]
 | .ok l=>.tup [.lst 13 l,.agg [.int .i64 0,.int .i64 0]]
def zQa (l:List AV):Prop:=∀a∈l,zO9 a
theorem zQQ {s:List Nat} (hs:BT s) {base:Int} (hb0:0<=base) (hb1:base<=1000000):
  (∃p:Int,0<=p/\p<=s.length/\ln s=.bad p/\zBU s base=some (.tup [.nilslice,.agg [.int .i64 5,.int .i64 (base+p)]])) ∨
  (ln s=.none/\zBU s base=some (.tup [.lst 2 [],.agg [.int .i64 0,.int .i64 0]])) ∨
  ∃es,es.length≠0/\zBU s base=some (.tup [.lst 2 es,.agg [.int .i64 0,.int .i64 0]]) ∧
   ((∃p:Int,0<=p/\p<=s.length/\ln s=.bad p/\zAw es=some (.tup [zQP,.agg [.int .i64 5,.int .i64 (base+p)]]))\/∃a,zO9 a/\ln s=.spec a/\zAw es=some (.tup [a,.agg [.int .i64 0,.int .i64 0]])):=by
 obtain ⟨r,hok,h1,h0⟩:=zSZ (line:=s) hs.1 hb0 hb1;cases r with
 | error p=>
  refine .inl ⟨p,hok.1,hok.2,?_,h1⟩
  unfold ln;rw [h0];show Ln.bad (0+p)=_
  rw [Int.zero_add]
 | ok ws=>
  cases ws with
  | nil=>
   refine .inr (.inl ⟨?_,h1⟩)
   unfold ln;rw [h0];rfl
  | cons w ws=>
   refine .inr (.inr ⟨wds base (w::ws),by rw [zA3];simp,h1,?_⟩)
   obtain ⟨q,hq,l1,l0⟩:=zR1 (m:=s.length) (base:=base) (w::ws) (by simp) (by have:=hok.1;have:=hs.1;omega) fun x hx=>⟨⟨by have:=(hok.2 x hx).1;have:=hs.1;omega,fun c hc=>hs.2 c ((hok.2 x hx).2.2.2 c hc)⟩,(hok.2 x hx).2.1,(hok.2 x hx).2.2.1⟩
   have e:ln s=match zAw (wds 0 (w::ws)) with
     | some (.tup [a,.agg [.int _ e,.int _ p]])=>if e=0 then Ln.spec a else Ln.bad p
     | _=>Ln.none:=by
    unfold ln;rw [h0];rfl
   rw [e,l0];cases q with
   | error p=>
    refine .inl ⟨p,hq.1,hq.2,?_,l1⟩
    show (if (5:Int)=0 then Ln.spec zQP else Ln.bad (0+p))=_
    rw [if_neg (by decide),Int.zero_add]
   | ok a=>
    refine .inr ⟨a,hq,?_,l1⟩
    show (if (0:Int)=0 then Ln.spec a else Ln.bad 0)=_
    rw [if_pos rfl]
def total:List (List Nat)->Nat
 | []=>0
 | s::r=>s.length+1+total r
theorem zJJ (s:List Nat) (r:List (List Nat)):total (s::r)=s.length+1+total r:=rfl
theorem zDl (L:List Nat->Ln) (a:Int) (s:List Nat) (r:List (List Nat)):parse L a (s::r)=match L s with
  | .bad p=>.error (a+p)
  | .none=>parse L (a+(s.length+1)) r
  | .spec v=>match parse L (a+(s.length+1)) r with
   | .ok l=>.ok (v::l)
   | .error p=>.error p:=rfl
theorem zLG:∀{ps:List (List Nat)} {a:Int} {l:List AV},(∀s∈ps,BT s)->parse ln a ps=.ok l->zQa l/\l.length<=ps.length
 | [],a,l,_,h=>by
  cases h;refine ⟨?_,Nat.le_refl _⟩
  intro x hx;cases hx
 | s::r,a,l,hl,h=>by
  have hs:=hl s (.head _);have ih:=fun {a l}=>zLG (ps:=r) (a:=a) (l:=l) fun x hx=>hl x (.tail _ hx)
  rw [zDl] at h;split at h
  ·cases h
  ·have:=ih h;exact ⟨this.1,by rw [List.length_cons];have:=this.2;omega⟩
  ·rename_i v hv;split at h
   ·rename_i l' e;cases h;have h3:=ih e;refine ⟨fun x hx=>?_,by rw [List.length_cons,List.length_cons];have:=h3.2;omega⟩
    rcases List.mem_cons.1 hx with rfl | hx
    ·rcases zQQ hs (Int.le_refl 0) (by decide) with ⟨p,h0,h1,h2,_⟩ | ⟨h2,_⟩ | ⟨es,_,_,⟨p,h0,h1,h2,_⟩ | ⟨x,h4,h2,_⟩⟩
     ·rw [h2] at hv;cases hv
     ·rw [h2] at hv;cases hv
     ·rw [h2] at hv;cases hv
     ·rw [h2] at hv;cases hv;exact h4
    ·exact h3.1 x hx
   ·cases h
theorem zR2 (b:List Nat):∀a:List Nat,zw 10 (a++[10]++b)=zw 10 a++zw 10 b
 | []=>by
  show zw 10 (10::b)=[[]]++zw 10 b
  rfl
 | x::a=>by
  have ih:=zR2 b a;rw [List.cons_append,List.cons_append,zw,zw];cases hx:Nat.beq x 10 with
  | true=>simp only [ih,List.cons_append]
  | false=>
   simp only [ih];cases h:zw 10 a with
   | nil=>
    exfalso
    cases a with
    | nil=>simp [zw] at h
    | cons y r=>
     rw [zw] at h;split at h
     ·cases h
     ·split at h <;> cases h
   | cons p q=>rfl
theorem zPa:∀a:List Nat,zw 10 a≠[]
 | []=>by simp [zw]
 | y::r=>by
  rw [zw];split
  ·simp
  ·split <;> simp
theorem zIK:∀a:List Nat,total (zw 10 a)=a.length+1
 | []=>rfl
 | x::a=>by
  have ih:=zIK a;rw [zw];cases hx:Nat.beq x 10 with
  | true=>simp only [total,ih,List.length_nil,List.length_cons];omega
  | false=>
   simp only;cases h:zw 10 a with
   | nil=>exact absurd h (zPa a)
   | cons p q=>
    rw [h] at ih;simp only [total,List.length_cons] at ih ⊢;omega
theorem zHF:∀{ps:List (List Nat)},∀s∈ps,s.length+ps.length<=total ps
 | [],s,h=>by cases h
 | t::r,s,h=>by
  have hr:r.length<=total r:=by
   clear h
   induction r with
   | nil=>exact Nat.zero_le _
   | cons x r ih=>simp only [total,List.length_cons];omega
  rw [zJJ,List.length_cons];rcases List.mem_cons.1 h with rfl | h
  ·omega
  ·have:=zHF s h;omega
theorem zPb {β:Type} {P:β->Prop} {f:List AV->Int->Int->Option β} {o:Option AV} {a b:Int} (h:o=some (.tup [.nilslice,.agg [.int .i64 a,.int .i64 b]])) (k:Wp (f [] a b) P):Wp (dK true [K.tup 2,K.l 13,K.agg 2,K.i IntKind.i64,K.i IntKind.i64] o f) P:=by
 subst h;exact k
theorem zS8 {β:Type} {P:β->Prop} {f:List AV->Int->Int->Option β} {o:Option AV} {a b:Int} (h:o=some (.tup [.nilslice,.agg [.int .i64 a,.int .i64 b]])) (k:Wp (f [] a b) P):Wp (dK true [K.tup 2,K.l 2,K.agg 2,K.i IntKind.i64,K.i IntKind.i64] o f) P:=by
 subst h;exact k
theorem zQR (ps:List (List Nat)) (hps:∀s∈ps,BT s) (hpl:ps.length<=100000) (h0 h1:Int):∀(f i a:Nat) (acc:List AV),i<=ps.length->ps.length-i<f->a+total (ps.drop i)<=200000->acc.length<=i →
  Wp (zCk f (Int.ofNat a) (ps.map .str) (Int.ofNat ps.length) (Int.ofNat i) h0 h1 acc) fun v=>v=encP (match parse ln (Int.ofNat a) (ps.drop i) with
   | .error p=>.error p
   | .ok l=>.ok (acc++l)):=by
 intro f
 induction f with
 | zero=>intro i a acc _ h;omega
 | succ f ih=>
  intro i a acc hi hf ht hacc;rw [zKb];refine Wp.lt (fun hlt=>qk_s (zHi hlt) ?_) fun hge=>?_
  ·have hd:ps.drop i=ps[i]::ps.drop (i+1):=List.drop_eq_getElem_cons hlt;have hs:=hps _ (List.getElem_mem hlt);rw [hd] at ht ⊢;generalize ps[i]=s at hs ht ⊢;rw [zJJ] at ht;have hw:wrapx .i64 (Int.ofNat a+wrapx .i64 (Int.ofNat s.length+1))=Int.ofNat (a+(s.length+1)):=by
    rw [zo (by omega),zN (by rw [Int.ofNat_eq_natCast,Int.ofNat_eq_natCast];omega) (by rw [Int.ofNat_eq_natCast,Int.ofNat_eq_natCast];omega)]
    rw [Int.ofNat_eq_natCast,Int.ofNat_eq_natCast,Int.ofNat_eq_natCast];omega
   have hat:Int.ofNat a+((s.length:Int)+1)=Int.ofNat (a+(s.length+1)):=by rw [Int.ofNat_eq_natCast,Int.ofNat_eq_natCast];omega
   rw [hw,zo (by omega)]
   have nz:∀p:Int,(!((5:Int)==0&&p==0))=true:=fun p=>rfl
   rcases zQQ hs (Int.natCast_nonneg a) (show (Int.ofNat a)<=1000000 by rw [Int.ofNat_eq_natCast];omega) with ⟨p,b0,b1,h2,h3⟩ | ⟨h2,h3⟩ | ⟨es,hne,h3,hL⟩
   ·refine zS8 h3 ?_
    show Wp (br true _ _) _
    refine Wp.mk ?_
    rw [zDl,h2];rfl
   ·refine zLD h3 ?_
    show Wp (br false _ (br true _ _)) _
    rw [zEa,zAu];have:=ih (i+1) (a+(s.length+1)) acc hlt (by omega) (by omega) (by omega)
    rw [zDl,h2];simp only;rw [hat];exact this
   ·refine zLD h3 ?_
    have hz:(Int.ofNat es.length==0)=false:=by
     have:¬(es.length:Int)=0:=by omega
     simpa using this
    show Wp (br false _ (br (Int.ofNat es.length==0) _ _)) _
    rw [zEa,hz,zEa];rcases hL with ⟨p,b0,b1,h2,h4⟩ | ⟨v,⟨k,n,u,b,c,d,i_,x1,x2,x3,x4,r,ba,rfl,hr,hck⟩,h2,h4⟩
    ·refine zDy h4 ?_
     show Wp (br true _ _) _
     refine Wp.mk ?_
     rw [zDl,h2];rfl
    ·refine zDy h4 ?_
     show Wp (br false _ _) _
     rw [zEa];refine Wp.gd (zLf (k:=144) (show acc.length+1<=_ by omega) (by omega)) ?_
     have:=ih (i+1) (a+(s.length+1)) (acc++[.agg [.int .i64 k,.str n,.str u,.int .i64 b,.int .i64 c,.int .i64 d,.str i_,.int .i64 x1,.int .i64 x2,.int .i64 x3,.int .i64 x4,.lst 6 r,.int .i64 ba]]) hlt (by omega) (by omega) (by rw [List.length_append];show acc.length+1<=_;omega)
     refine Wp.mono this fun w hw2=>?_
     rw [hw2];rw [zDl,h2];simp only;rw [hat];cases parse ln (Int.ofNat (a+(s.length+1))) (ps.drop (i+1)) with
     | error p=>rfl
     | ok l=>simp only [List.append_assoc];rfl
  ·have hi2:i=ps.length:=by omega
   subst hi2;rw [List.drop_length];refine Wp.mk ?_
   show _=encP (.ok (acc++[]))
   rw [List.append_nil];rfl
theorem zKS:∀(a:List Nat),∀s∈zw 10 a,∀c∈s,c∈a
 | [],s,h,c,hc=>by
  rw [List.mem_singleton.1 (show s∈[([]:List Nat)] from h)] at hc;exact hc
 | x::a,s,h,c,hc=>by
  have ih:=zKS a;rw [zw] at h;cases hx:Nat.beq x 10 with
  | true=>
   simp only [hx] at h;rcases List.mem_cons.1 h with rfl | h
   ·cases hc
   ·exact .tail _ (ih s h c hc)
  | false=>
   simp only [hx] at h;cases e:zw 10 a with
   | nil=>exact absurd e (zPa a)
   | cons p q=>
    rw [e] at h ih;rcases List.mem_cons.1 h with rfl | h
    ·rcases List.mem_cons.1 hc with rfl | hc
     ·exact .head _
     ·exact .tail _ (ih p (.head _) c hc)
    ·exact .tail _ (ih s (.tail _ h) c hc)
theorem zMR (s:List Nat) (hB:BT s):zEh s=some (encP (parse ln 0 (zw 10 s))):=by
 have hs:=hB.1;refine zCn ?_
 rw [zIx];refine Wp.ite (fun h=>?_) fun _=>?_
 ·rw [Int.ofNat_eq_natCast] at h;omega
 have he:zIl s [10]=some (.lst 1 ((zw 10 s).map .str)):=by
  show (match Nat.blt s.length 4294967281&&Nat.blt 10 256 with
   | true=>some (AV.lst 1 ((zw 10 s).map .str))
   | false=>none)=_
  rw [show Nat.blt s.length 4294967281=true from by rw [Nat.blt_eq];omega]
  rfl
 refine zMO he ?_
 rw [List.length_map];have ht:=zIK s;have hps:∀x∈zw 10 s,BT x:=fun x hx=>by
  have:=zHF x hx;have hp:=List.length_pos_of_mem hx;exact ⟨by omega,fun c hc=>hB.2 c (zKS s x hx c hc)⟩
 have hpl:(zw 10 s).length<=100000:=by
  cases h:zw 10 s with
  | nil=>exact Nat.zero_le _
  | cons p q=>have:=zHF (ps:=p::q) p (.head _);rw [←h] at this ⊢;omega
 have:=zQR (zw 10 s) hps hpl (Int.ofNat 0) (Int.ofNat 0) FUEL 0 0 [] (Nat.zero_le _) (z0 (by omega)) (by rw [List.drop_zero];omega) (Nat.le_refl _)
 refine Wp.mono this fun v hv=>?_
 rw [hv,List.drop_zero];show encP (match parse ln 0 (zw 10 s) with
  | .error p=>.error p
  | .ok l=>.ok ([]++l))=_
 cases parse ln 0 (zw 10 s) <;> rfl
theorem zS9 (r:List AV) (hr:Nds r):zBX r r=some (.bool true):=by
 have loop:∀(f i:Nat),i<=r.length->r.length-i<f->Wp (zAp f (Int.ofNat i) r r) fun v=>v=.bool true:=by
  intro f
  induction f with
  | zero=>intro i _ h;omega
  | succ f ih=>
   intro i hi hf;rw [zFO];refine Wp.lt (fun hlt=>?_) fun _=>Wp.mk rfl
   obtain ⟨kd,s,t,n,l,r',he,_⟩:=hr.1 _ (List.getElem_mem hlt);have hx:=(zAW hlt).trans (congrArg some he);refine zB2 hx (zB2 hx ?_)
   have e:(!(kd==kd&&(seqb s s&&(seqb t t&&(n==n&&(l==l&&r'==r'))))))=false:=by
    rw [zD4,zD4];simp
   show Wp (br (!(kd==kd&&(seqb s s&&(seqb t t&&(n==n&&(l==l&&r'==r')))))) _ _) _
   rw [e,zEa,zo (by have:=hr.2;omega)]
   exact ih (i+1) hlt (by omega)
 refine zCn ?_
 rw [zGo];have e:(Int.ofNat r.length != Int.ofNat r.length)=false:=by simp
 rw [e,zEa];exact loop FUEL 0 (Nat.zero_le _) (z0 (by have:=hr.2;omega))
theorem zTa (k:Int) (n u:List Nat) (b c d:Int) (i_:List Nat) (x1 x2 x3 x4:Int) (r:List AV) (ba:Int) (hr:Nds r):zBY k n u b c d i_ x1 x2 x3 x4 r ba k n u b c d i_ x1 x2 x3 x4 r ba=some (.bool true):=by
 have z:∀x:Int,(x==x)=true:=fun x=>by simp
 have e4:(x1==x1&&(x2==x2&&(x3==x3&&x4==x4)))=true:=by simp
 rw [zGp,z k,zAu,zD4,zAu,zD4,zAu,z b,zAu,z c,zAu,z d,zAu,zD4,zAu,e4,zAu,zS9 r hr,ek_b,zAu,z ba]
end Go.Proofs.YtdeeimaahdgeaaaGreatDoor.spec
namespace Go.Proofs.YtdeeimaahdgeaaaGreatDoor.spec
open Go Go.Sy
variable [MX]
def dec (n:Nat):List Nat:=(Lib.decDigits n).map UInt8.toNat
theorem zVM (n:Nat):dec n=if n<10 then [48+n] else dec (n / 10)++[48+n % 10]:=by
 unfold dec;rw [Lib.decDigits];by_cases h:n<10
 ·rw [dif_pos h,if_pos h];simp only [List.map_cons,List.map_nil,zJE h]
 ·rw [dif_neg h,if_neg h,List.map_append];simp only [List.map_cons,List.map_nil,zJE (Nat.mod_lt n (by decide:0<10))]
def digV (x:Nat) (l:List Nat):Nat:=l.foldl (fun x c=>10*x+(c-48)) x
theorem zQb:∀(l:List Nat) (x:Nat),x<=digV x l
 | [],x=>Nat.le_refl _
 | c::r,x=>by
  have:=zQb r (10*x+(c-48));show x<=digV (10*x+(c-48)) r
  omega
theorem zL2 (n:Nat):(∀c∈dec n,48<=c/\c<=57)/\(∃d r,dec n=d::r/\(1<=n->d≠48))/\digV 0 (dec n)=n:=by
 induction n using Nat.strongRecOn with
 | ind n ih=>
  rw [zVM];by_cases h:n<10
  ·rw [if_pos h];refine ⟨fun c hc=>?_,⟨_,_,rfl,fun _=>by omega⟩,?_⟩
   ·rw [List.mem_singleton.1 hc];omega
   ·show 10*0+(48+n-48)=n
    omega
  ·rw [if_neg h];obtain ⟨h1,⟨d,r,h2,h3⟩,h4⟩:=ih (n / 10) (by omega)
   refine ⟨fun c hc=>?_,⟨d,r++[48+n % 10],by rw [h2];rfl,fun _=>h3 (by omega)⟩,?_⟩
   ·rcases List.mem_append.1 hc with hc | hc
    ·exact h1 c hc
    ·rw [List.mem_singleton.1 hc];omega
   ·unfold digV at h4 ⊢;rw [List.foldl_append,h4];show 10*(n / 10)+(48+n % 10-48)=n
    omega
theorem zEI (n:Nat) (h:n<=9223372036854775807):(dec n).length<=21:=by
 have:=Lib.itoa_length_le (n:Int) (by omega) (by omega)
 unfold Lib.itoa at this;rw [if_neg (by omega),Int.toNat_natCast] at this
 unfold dec;rw [List.length_map];exact this
theorem zLi (n:Nat) (h:n<=9223372036854775807):zAZ (n:Int) (Int.ofNat 10)=some (.str (dec n)):=by
 show (match ((Int.ofNat 10==10)&&decide (-9223372036854775808<=(n:Int)/\(n:Int)<=9223372036854775807)) with | true=>some (AV.str ((Lib.itoa n).map UInt8.toNat)) | false=>none)=_
 rw [decide_eq_true (⟨by omega,by omega⟩:-9223372036854775808<=(n:Int)/\(n:Int)<=9223372036854775807)]
 unfold Lib.itoa;rw [if_neg (by omega),Int.toNat_natCast]
 rfl
theorem zL3 (n:Nat) (h:n<100):zEL (n:Int)=some (.str (dec n)):=by
 show zIg [.int .i64 (n:Int)]=_
 unfold zIg;simp only;split
 ·rfl
 ·rename_i h';exact absurd h' (by simp;omega)
theorem zPF (s:List Nat) (hs:s.length<=65536) (hd:∀c∈s,48<=c/\c<=57) (n:Nat) (hn:n<=1099511627776):∀(f i x:Nat),i<=s.length->s.length-i<f->digV x (s.drop i)=n →
  zBL f (x:Int) (Int.ofNat (s.map fun b=>AV.int IntKind.u8 (Int.ofNat b)).length) (Int.ofNat i) (s.map fun b=>AV.int IntKind.u8 (Int.ofNat b))=some (.tup [.int .i64 (n:Int),.bool true]):=by
 intro f
 induction f with
 | zero=>intro i x _ h;omega
 | succ f ih=>
  intro i x hi hf hv;refine zCn ?_
  rw [zF7];refine Wp.ite (fun hlt=>?_) fun hge=>?_
  ·have hlt:i<s.length:=by rw [List.length_map,Int.ofNat_eq_natCast,Int.ofNat_eq_natCast] at hlt;omega
   obtain ⟨c0,c1⟩:=hd _ (List.getElem_mem hlt);rw [List.drop_eq_getElem_cons hlt] at hv;have hv:digV (10*x+(s[i]-48)) (s.drop (i+1))=n:=hv;have hle:=zQb (s.drop (i+1)) (10*x+(s[i]-48));refine zOX hlt (qk_u (zMN hlt) (Wp.ite (fun h=>?_) fun _=>Wp.ite (fun h=>?_) fun _=>?_))
   ·rw [Int.ofNat_eq_natCast] at h;omega
   ·rw [Int.ofNat_eq_natCast] at h;omega
   ·generalize s[i]=c at *;rw [zGc];have e1:wrapx .i64 (10*(x:Int))=((10*x:Nat):Int):=by rw [zN (by omega) (by omega)];omega
    have e2:wrapx .u8 (Int.ofNat c-48)=((c-48:Nat):Int):=by
     have:Int.ofNat c-48=Int.ofNat (c-48):=by rw [Int.ofNat_eq_natCast,Int.ofNat_eq_natCast];omega
     rw [this];have h9:c-48<10:=by omega
     generalize c-48=d at h9
     match d,h9 with
     | 0,_ | 1,_ | 2,_ | 3,_ | 4,_ | 5,_ | 6,_ | 7,_ | 8,_ | 9,_=>rfl
    have e3:wrapx .i64 (((c-48:Nat):Int))=((c-48:Nat):Int):=zN (by omega) (by omega)
    have e4:wrapx .i64 (((10*x:Nat):Int)+((c-48:Nat):Int))=((10*x+(c-48):Nat):Int):=by rw [zN (by omega) (by omega)];omega
    rw [e1,e2,e3,e4,if_neg (by omega),zo (by omega)]
    exact ⟨_,ih (i+1) _ hlt (by omega) hv,rfl⟩
  ·have hge:s.length<=i:=by rw [List.length_map,Int.ofNat_eq_natCast,Int.ofNat_eq_natCast] at hge;omega
   rw [List.drop_eq_nil_of_le hge] at hv;have hv:x=n:=hv;subst hv;refine Wp.mk ?_
   rw [decide_eq_true (by omega:(x:Int)<=1099511627776)]
theorem zDm (n:Nat) (h1:1<=n) (hm:n<=1099511627776):zC (dec n)=some (.tup [.int .i64 (n:Int),.bool true]):=by
 obtain ⟨hd,⟨d,r,he,h48⟩,hv⟩:=zL2 n;have hl:=zEI n (by omega)
 have j0:zCe (dec n)=some (.tup [.int .i64 (n:Int),.bool true]):=by
  rw [zGd];exact zPF (dec n) (by omega) hd n hm FUEL 0 0 (Nat.zero_le _) (z0 (by omega)) hv
 refine zCn ?_
 rw [zHM];refine Wp.if (fun h=>?_) fun _=>?_
 ·rw [he] at h;cases h
 ·refine Wp.bd (R:=fun c=>c=d) ⟨d,by rw [he];rfl,rfl⟩ fun c hc=>?_
  subst hc;refine Wp.if (fun h=>?_) fun _=>⟨_,j0,rfl⟩
  exfalso
  have:=h48 h1;have h:(Int.ofNat c==48)=true:=h;rw [beq_iff_eq,Int.ofNat_eq_natCast] at h;omega
end Go.Proofs.YtdeeimaahdgeaaaGreatDoor.spec
namespace Go.Proofs.YtdeeimaahdgeaaaGreatDoor.spec
open Go Go.Sy
variable [MX]
section
variable {line:List Nat} {P:AV->Prop} {f i fr q:Nat} {a b:Int} {ws:List Wd}
noncomputable abbrev CL (line:List Nat) (f st fr q i:Nat) (a b:Int) (ws:List Wd):Option AV:=zB4 f line 0 (Int.ofNat st) (Int.ofNat fr) (Int.ofNat q) (Int.ofNat line.length) (Int.ofNat i) a b (wds 0 ws)
theorem beqN {x y:Nat}:((Int.ofNat x==Int.ofNat y)=true)↔x=y:=by
 rw [beq_iff_eq];exact Int.ofNat_inj
theorem zMS {x y:Nat}:((Int.ofNat x==Int.ofNat y)=false)↔x≠y:=by
 rw [beq_eq_false_iff_ne];exact not_congr Int.ofNat_inj
theorem zHk (hi:i<line.length) {st:Nat} (k:Wp (zAR f line 0 (Int.ofNat st) (Int.ofNat fr) (Int.ofNat q) (Int.ofNat line.length) (Int.ofNat i) (Int.ofNat line[i]) a b (wds 0 ws)) P):Wp (CL line (f+1) st fr q i a b ws) P:=by
 unfold CL;rw [zBS];refine Wp.ite (fun _=>Wp.ite (fun _=>?_) fun h=>absurd (Int.ofNat_lt.2 hi) h) fun h=>absurd (Int.ofNat_le.2 (Nat.le_of_lt hi)) h
 exact Wp.bd (R:=fun c=>c=line[i]) ⟨_,zAW hi,rfl⟩ fun c hc=>by subst hc;exact k
theorem zLj (hl:line.length<=65536) (hi:i<=line.length) {st:Nat} (k:Wp (CL line f st fr q (i+1) a b ws) P):Wp (z8 f line 0 (Int.ofNat st) (Int.ofNat fr) (Int.ofNat q) (Int.ofNat line.length) (Int.ofNat i) a b (wds 0 ws)) P:=by
 rw [zFt,zo (by omega)]
 exact k
theorem zR3 {c n:Nat} (h:Int.ofNat c<(n:Int)):c<n:=Int.ofNat_lt.1 h
theorem zQS (hl:line.length<=65536) (hi:i<=line.length) {c:Nat} {st:Nat} (h1:33<=c) (h2:c<=126)
  (k:Wp (zCy f line 0 (Int.ofNat st) (Int.ofNat fr) (Int.ofNat q) (Int.ofNat line.length) (Int.ofNat i) (Int.ofNat c) false (Int.ofNat 5) (wrapx .i64 (0+Int.ofNat i)) a b (wds 0 ws)) P) (hs:st≠2):
  Wp (zAR f line 0 (Int.ofNat st) (Int.ofNat fr) (Int.ofNat q) (Int.ofNat line.length) (Int.ofNat i) (Int.ofNat c) a b (wds 0 ws)) P:=by
 rw [zBb];refine Wp.if (fun h=>absurd (beqN.1 h) hs) fun _=>Wp.if (fun h=>?_) fun _=>Wp.ite (fun h=>?_) fun _=>?_
 ·have:=(beqN (y:=32)).1 h;omega
 ·have:=zR3 (n:=33) h;omega
 ·rw [decide_eq_false (by rw [Int.ofNat_eq_natCast];omega)]
  exact k
theorem zWb (hl:line.length<=65536) (hi:i<line.length) (h1:33<=line[i]) (h2:line[i]<=126) (h3:line[i]≠34) (k:Wp (CL line f 1 fr q (i+1) a b ws) P):Wp (CL line (f+1) 1 fr q i a b ws) P:=by
 refine zHk hi (zQS hl (Nat.le_of_lt hi) h1 h2 ?_ (by decide))
 rw [zCm];refine Wp.if (fun h=>by cases h) fun _=>Wp.if (fun h=>absurd ((beqN (y:=0)).1 h) (by decide)) fun _=>Wp.if (fun h=>absurd ((beqN (y:=3)).1 h) (by decide)) fun _=>Wp.if (fun h=>absurd ((beqN (y:=34)).1 h) h3) fun _=>zLj hl (Nat.le_of_lt hi) k
theorem zPc (hl:line.length<=65536) (hi:i<line.length) (h1:33<=line[i]) (h2:line[i]<=126) (h3:line[i]≠34) (k:Wp (CL line f 1 i q (i+1) a b ws) P):Wp (CL line (f+1) 0 fr q i a b ws) P:=by
 refine zHk hi (zQS hl (Nat.le_of_lt hi) h1 h2 ?_ (by decide))
 rw [zCm];exact Wp.if (fun h=>by cases h) fun _=>Wp.if (fun _=>Wp.if (fun h=>absurd ((beqN (y:=34)).1 h) h3) fun _=>zLj hl (Nat.le_of_lt hi) k) fun h=>absurd rfl ((zMS (y:=0)).1 h)
theorem zR4 (hl:line.length<=65536) (hi:i<line.length) (h1:32<=line[i]) (h2:line[i]<=126) (h3:line[i]≠34) (k:Wp (CL line f 2 fr q (i+1) a b ws) P):Wp (CL line (f+1) 2 fr q i a b ws) P:=by
 refine zHk hi ?_
 rw [zBb];refine Wp.if (fun _=>Wp.if (fun h=>?_) fun _=>Wp.if (fun h=>absurd ((beqN (y:=34)).1 h) h3) fun _=>Wp.ite (fun h=>?_) fun _=>?_) fun h=>absurd rfl ((zMS (y:=2)).1 h)
 ·have:=beqN.1 h;omega
 ·have:=zR3 (n:=32) h;omega
 ·rw [decide_eq_false (by rw [Int.ofNat_eq_natCast];omega),zFu]
  exact Wp.if (fun h=>by cases h) fun _=>zLj hl (Nat.le_of_lt hi) k
theorem zTb (hl:line.length<=65536) (hi:i<line.length) (h3:line[i]=34) (k:Wp (CL line f 3 fr q (i+1) a b ws) P):Wp (CL line (f+1) 2 fr q i a b ws) P:=by
 refine zHk hi ?_
 rw [zBb];refine Wp.if (fun _=>Wp.if (fun h=>?_) fun _=>Wp.if (fun _=>zLj hl (Nat.le_of_lt hi) k) fun h=>absurd h3 ((zMS (y:=34)).1 h)) fun h=>absurd rfl ((zMS (y:=2)).1 h)
 have:=beqN.1 h;omega
theorem zKT:∀(l:List UInt8) (c:UInt8) (r:List UInt8),c ∉ l->Lib.indexByte (l++c::r) c=(l.length:Int)
 | [],c,r,_=>by simp [Lib.indexByte]
 | x::l,c,r,h=>by
  have ih:=zKT l c r fun hm=>h (.tail _ hm)
  have hx:(x==c)=false:=by
   rw [beq_eq_false_iff_ne]
   rintro rfl
   exact h (.head _)
  simp only [List.cons_append,Lib.indexByte,hx,ih];have:((l.length:Int)==-1)=false:=by rw [beq_eq_false_iff_ne];omega
  simp only [this,List.length_cons];simp
theorem zKU:∀(l:List UInt8) (c:UInt8),c ∉ l->Lib.indexByte l c=-1
 | [],c,_=>rfl
 | x::l,c,h=>by
  have ih:=zKU l c fun hm=>h (.tail _ hm)
  have hx:(x==c)=false:=by
   rw [beq_eq_false_iff_ne]
   rintro rfl
   exact h (.head _)
  simp only [Lib.indexByte,hx,ih];rfl
theorem zWc {x c:Nat} (h1:x<256) (h2:c<256) (h:x≠c):UInt8.ofNat x≠UInt8.ofNat c:=fun e=>h (by
 have:=congrArg UInt8.toNat e;rw [UInt8.toNat_ofNat',UInt8.toNat_ofNat'] at this;omega)
theorem zMT {l:List Nat} {c:Nat} (h1:∀x∈l,x<256) (h2:c<256) (h:c ∉ l):UInt8.ofNat c ∉ l.map UInt8.ofNat:=fun hm=>by
 obtain ⟨x,hx,e⟩:=List.mem_map.1 hm;exact zWc (h1 x hx) h2 (fun e=>h (e▸hx)) e
theorem zVN {l:List Nat} {c:Nat} (h1:∀x∈l,x<256) (h2:c<256) (h:c ∉ l):zAe l (Int.ofNat c)=some (.int .i64 (-1)):=by
 show some (AV.int .i64 (Lib.indexByte (l.map UInt8.ofNat) (UInt8.ofNat c)))=_
 rw [zKU _ _ (zMT h1 h2 h)]
theorem zVO {l r:List Nat} {c:Nat} (h1:∀x∈l,x<256) (h2:c<256) (h:c ∉ l):zAe (l++c::r) (Int.ofNat c)=some (.int .i64 (Int.ofNat l.length)):=by
 show some (AV.int .i64 (Lib.indexByte ((l++c::r).map UInt8.ofNat) (UInt8.ofNat c)))=_
 rw [List.map_append,List.map_cons,zKT _ _ _ (zMT h1 h2 h),List.length_map];rfl
theorem zUR (hl:line.length<=65536) (hi:i<line.length) (h3:line[i]=34) {key:List Nat} (hk:(line.take i).drop fr=key++[61]) (hfr:fr<i) (hk1:∀x∈key,x<256) (hk2:61 ∉ key) (k:Wp (CL line f 2 fr i (i+1) a b ws) P):Wp (CL line (f+1) 1 fr q i a b ws) P:=by
 have hlen:key.length+1=i-fr:=by
  have:=congrArg List.length hk;rw [List.length_drop,List.length_take,Nat.min_eq_left (Nat.le_of_lt hi),List.length_append] at this
  simpa using this.symm
 have hprev:line[i-1]? = some 61:=by
  have h0:((line.take i).drop fr)[key.length]? = some 61:=by rw [hk];simp
  rw [List.getElem?_drop,List.getElem?_take] at h0;have e:fr+key.length=i-1:=by omega
  rw [e,if_pos (by omega)] at h0
  exact h0
 refine zHk hi (zQS hl (Nat.le_of_lt hi) (by omega) (by omega) ?_ (by decide))
 rw [zCm];refine Wp.if (fun h=>by cases h) fun _=>Wp.if (fun h=>absurd ((beqN (y:=0)).1 h) (by decide)) fun _=>Wp.if (fun h=>absurd ((beqN (y:=3)).1 h) (by decide)) fun _=>Wp.if (fun _=>?_) fun h=>absurd h3 ((zMS (y:=34)).1 h)
 rw [zCE (by omega) (by omega)]
 refine Wp.bd (R:=fun c=>c=61) ⟨61,hprev,rfl⟩ fun c hc=>?_
 subst hc;refine Wp.if (fun h=>by cases h) fun _=>Wp.gd ⟨Int.natCast_nonneg _,Int.ofNat_le.2 (Nat.le_of_lt hfr),Int.ofNat_le.2 (Nat.le_of_lt hi)⟩ ?_
 have e1:List.drop (Int.toNat (Int.ofNat fr)) (List.take (Int.toNat (Int.ofNat i)) line)=key++[61]:=hk;rw [e1];refine qk_i (zVO hk1 (by decide) hk2) ?_
 have e2:wrapx .i64 (Int.ofNat (i-1)-Int.ofNat fr)=Int.ofNat key.length:=by
  rw [zN (by rw [Int.ofNat_eq_natCast,Int.ofNat_eq_natCast];omega) (by rw [Int.ofNat_eq_natCast,Int.ofNat_eq_natCast];omega),Int.ofNat_eq_natCast,Int.ofNat_eq_natCast,Int.ofNat_eq_natCast]
  omega
 rw [e2];refine Wp.if (fun h=>?_) fun _=>zLj hl (Nat.le_of_lt hi) k
 simp at h
theorem zVP (hl:line.length<=65536) (hi:i<=line.length) (h3:∀h:i<line.length,line[i]=32) {st:Nat} (hst:st=1\/st=3) (hfr:fr<=i) (hws:ws.length<=i) (k:Wp (CL line f 0 fr q (i+1) a b (ws++[((line.take i).drop fr,(fr:Int))])) P):Wp (CL line (f+1) st fr q i a b ws) P:=by
 have main:Wp (zAR f line 0 (Int.ofNat st) (Int.ofNat fr) (Int.ofNat q) (Int.ofNat line.length) (Int.ofNat i) (Int.ofNat 32) a b (wds 0 ws)) P:=by
  rw [zBb];refine Wp.if (fun h=>by have:=(beqN (y:=2)).1 h;omega) fun _=>Wp.if (fun _=>Wp.if (fun _=>?_) fun h=>?_) fun h=>by cases h
  ·refine Wp.gd ⟨Int.natCast_nonneg _,Int.ofNat_le.2 hfr,Int.ofNat_le.2 hi⟩ (Wp.gd ?_ ?_)
   ·have e:(chunks 2 1 [AV.str (List.drop (Int.toNat (Int.ofNat fr)) (List.take (Int.toNat (Int.ofNat i)) line)),AV.int .i64 (wrapx .i64 (0+Int.ofNat fr))]).length=1:=rfl;rw [e,zA3];unfold zg;omega
   ·have e0:wrapx .i64 (0+Int.ofNat fr)=0+Int.ofNat fr:=zN (by rw [Int.ofNat_eq_natCast];omega) (by rw [Int.ofNat_eq_natCast];omega)
    rw [e0];have e:wds 0 ws++chunks 2 1 (List.drop 0 (splice [AV.str [],AV.int .i64 0] 0 (AV.cells (AV.agg (splice (splice [AV.str [],AV.int .i64 0] 0 (AV.cells (AV.str (List.drop (Int.toNat (Int.ofNat fr)) (List.take (Int.toNat (Int.ofNat i)) line))))) 1 (AV.cells (AV.int .i64 (0+Int.ofNat fr))))))))=wds 0 (ws++[((line.take i).drop fr,(fr:Int))]):=(zNf 0 ws _ _);rw [e];exact zLj hl hi k
  ·exfalso
   rcases hst with rfl | rfl <;> cases h
 by_cases h:i<line.length
 ·refine zHk h ?_
  rw [h3 h];exact main
 ·have e:i=line.length:=by omega
  unfold CL;rw [zBS];exact Wp.ite (fun _=>Wp.ite (fun h'=>absurd (Int.ofNat_lt.1 h') h) fun _=>main) fun h'=>absurd (Int.ofNat_le.2 hi) h'
theorem zUS (k:P (.tup [.lst 2 (wds 0 ws),.agg [.int .i64 0,.int .i64 0]])) {st:Nat}:Wp (CL line (f+1) st fr q (line.length+1) a b ws) P:=by
 unfold CL;rw [zBS];exact Wp.ite (fun h=>absurd (Int.ofNat_le.1 h) (by omega)) fun _=>Wp.mk k
end
end Go.Proofs.YtdeeimaahdgeaaaGreatDoor.spec
namespace Go.Proofs.YtdeeimaahdgeaaaGreatDoor.spec
open Go Go.Sy
variable [MX]
def okW (c:Nat):Prop:=33<=c/\c<=126/\c≠34/\c≠35
def zR5 (w:List Nat):Prop:=w≠[]/\∀c∈w,okW c
def zWd (w:List Nat):Prop:=∃key r,w=(key++[61])++(34::(r++[34]))/\zR5 key/\61 ∉ key/\∀c∈r,okQ' c
def zIi (w:List Nat):Prop:=zR5 w\/zWd w
theorem zDg {l r:List Nat} {i c:Nat} (h:l.drop i=c::r):∃hi:i<l.length,l[i]=c/\l.drop (i+1)=r:=by
 have hi:i<l.length:=by
  rcases Nat.lt_or_ge i l.length with hi | hi
  ·exact hi
  ·rw [List.drop_eq_nil_of_le hi] at h;cases h
 rw [List.drop_eq_getElem_cons hi] at h;injection h with h1 h2
 exact ⟨hi,h1,h2⟩
section
variable {line:List Nat} {P:AV->Prop} {a b:Int}
theorem zNg (hl:line.length<=65536) {fr q f:Nat} {ws:List Wd} {tail:List Nat}:∀(w:List Nat) (i:Nat),(∀c∈w,okW c)->line.drop i=w++tail->Wp (CL line f 1 fr q (i+w.length) a b ws) P->Wp (CL line (f+w.length) 1 fr q i a b ws) P
 | [],i,_,_,k=>k
 | c::w,i,hc,hd,k=>by
  obtain ⟨hi,e1,e2⟩:=zDg hd;obtain ⟨h1,h2,h3,_⟩:=hc c (.head _);refine zWb (f:=f+w.length) hl hi (by omega) (by omega) (by omega) (zNg hl w (i+1) (fun x hx=>hc x (.tail _ hx)) e2 ?_)
  have e:i+1+w.length=i+(c::w).length:=by rw [List.length_cons];omega
  rw [e];exact k
theorem zLH (hl:line.length<=65536) {fr q f:Nat} {ws:List Wd} {tail:List Nat}:∀(w:List Nat) (i:Nat),(∀c∈w,okQ' c)->line.drop i=w++tail->Wp (CL line f 2 fr q (i+w.length) a b ws) P->Wp (CL line (f+w.length) 2 fr q i a b ws) P
 | [],i,_,_,k=>k
 | c::w,i,hc,hd,k=>by
  obtain ⟨hi,e1,e2⟩:=zDg hd;obtain ⟨h1,h2,h3,_⟩:=hc c (.head _);refine zR4 (f:=f+w.length) hl hi (by omega) (by omega) (by omega) (zLH hl w (i+1) (fun x hx=>hc x (.tail _ hx)) e2 ?_)
  have e:i+1+w.length=i+(c::w).length:=by rw [List.length_cons];omega
  rw [e];exact k
theorem zJK {l u v:List Nat} {i:Nat} (h:l.drop i=u++v):l.drop (i+u.length)=v:=by
 rw [←List.drop_drop,h,List.drop_left]
theorem zPd {l u v:List Nat} {i:Nat} (h:l.drop i=u++v):(l.take (i+u.length)).drop i=u:=by
 rw [List.drop_take,h];have:i+u.length-i=u.length:=by omega
 rw [this,List.take_left]
theorem zPe {l u v:List Nat} {i:Nat} (hne:u≠[]) (h:l.drop i=u++v):i+u.length+v.length=l.length:=by
 have:=congrArg List.length h;rw [List.length_drop,List.length_append] at this;have h0:0<u.length:=List.length_pos_iff.2 hne;omega
theorem zNR (hl:line.length<=65536) {fr q f i:Nat} {ws:List Wd} {w tail:List Nat} (hw:zIi w) (hd:line.drop i=w++tail) (ht:tail=[]\/∃r,tail=32::r) (hws:ws.length<=i)
  (k:∀fr' q',Wp (CL line f 0 fr' q' (i+w.length+1) a b (ws++[(w,(i:Int))])) P):Wp (CL line (f+w.length+1) 0 fr q i a b ws) P:=by
 have hne:w≠[]:=by
  rcases hw with h | ⟨key,r,rfl,_⟩
  ·exact h.1
  ·simp
 have hlen:=zPe hne hd;have stop:∀{st:Nat} {q':Nat},st=1\/st=3->Wp (CL line (f+1) st i q' (i+w.length) a b ws) P:=fun {st q'} hst=>by
  refine zVP hl (by omega) (fun h=>?_) hst (by omega) (by omega) ?_
  ·rcases ht with rfl | ⟨r,rfl⟩
   ·simp at hlen;omega
   ·have e:=zJK hd;obtain ⟨_,e1,_⟩:=zDg e;exact e1
  ·rw [zPd hd];exact k i q'
 rcases hw with ⟨hne,hc⟩ | ⟨key,r,rfl,⟨kne,hk⟩,h61,hr⟩
 ·cases w with
  | nil=>exact absurd rfl hne
  | cons c w=>
   obtain ⟨hi,e1,e2⟩:=zDg hd;obtain ⟨h1,h2,h3,_⟩:=hc c (.head _);have e:f+(c::w).length+1=(f+1+w.length)+1:=by rw [List.length_cons];omega
   rw [e];refine zPc hl hi (by omega) (by omega) (by omega) (zNg hl w (i+1) (fun x hx=>hc x (.tail _ hx)) e2 ?_)
   have e':i+1+w.length=i+(c::w).length:=by rw [List.length_cons];omega
   rw [e'];exact stop (.inl rfl)
 ·cases key with
  | nil=>exact absurd rfl kne
  | cons c key=>
   have hd0:line.drop i=c::((key++[61])++(34::(r++[34])++tail)):=by rw [hd];simp
   obtain ⟨hi,e1,e2⟩:=zDg hd0;obtain ⟨h1,h2,h3,_⟩:=hk c (.head _);have hL:((c::key)++[61]++(34::(r++[34]))).length=key.length+r.length+4:=by simp only [List.length_append,List.length_cons,List.length_nil];omega
   have e:f+((c::key)++[61]++(34::(r++[34]))).length+1=((((f+1)+1)+r.length)+1+(key++[61]).length)+1:=by rw [hL,List.length_append];simp;omega
   rw [e];refine zPc hl hi (by omega) (by omega) (by omega) (zNg hl (key++[61]) (i+1) (fun x hx=>?_) e2 ?_)
   ·rcases List.mem_append.1 hx with hx | hx
    ·exact hk x (.tail _ hx)
    ·rw [List.mem_singleton.1 hx];exact ⟨by decide,by decide,by decide,by decide⟩
   have hd1:=zJK e2;have ei:i+1+(key++[61]).length=i+((c::key)++[61]).length:=by simp;omega
   rw [ei] at hd1 ⊢;obtain ⟨hi1,f1,f2⟩:=zDg hd1;have hd2:line.drop i=((c::key)++[61])++(34::(r++[34])++tail):=by rw [hd];simp
   refine zUR hl hi1 f1 (key:=c::key) (zPd hd2) (by simp) (fun x hx=>by have:=(hk x hx).2.1;omega) h61 ?_
   have hd3:line.drop (i+((c::key)++[61]).length+1)=r++(34::tail):=by rw [f2];simp
   refine zLH hl r _ hr hd3 ?_
   obtain ⟨hi4,g1,g2⟩:=zDg (zJK hd3);refine zTb hl hi4 g1 ?_
   have e5:i+((c::key)++[61]).length+1+r.length+1=i+((c::key)++[61]++(34::(r++[34]))).length:=by rw [hL];simp;omega
   rw [e5];exact stop (.inr rfl)
theorem zHa (w:List Nat) (r:List (List Nat)):z5 [32] (w::r)=w++(r.map ([32]++·)).flatten:=rfl
theorem zJL (hl:line.length<=65536):∀(W:List (List Nat)) (i f fr q:Nat) (ws:List Wd),W≠[]->(∀w∈W,zIi w)->line.drop i=z5 [32] W->ws.length<=i →
  ∃us:List Wd,us.map Prod.fst=W/\Wp (CL line (f+(z5 [32] W).length+2) 0 fr q i a b ws) fun v=>v=.tup [.lst 2 (wds 0 (ws++us)),.agg [.int .i64 0,.int .i64 0]]
 | [],_,_,_,_,_,h,_,_,_=>absurd rfl h
 | [w],i,f,fr,q,ws,_,hg,hd,hws=>by
  have hd:line.drop i=w++[]:=hd;have hw:=hg w (.head _);have hne:w≠[]:=by
   rcases hw with h | ⟨key,r,rfl,_⟩
   ·exact h.1
   ·simp
  have hlen:=zPe hne hd;simp only [List.length_nil,Nat.add_zero] at hlen;refine ⟨[(w,(i:Int))],rfl,?_⟩
  have e:f+(z5 [32] [w]).length+2=(f+1)+w.length+1:=by rw [zHa];simp;omega
  rw [e];refine zNR hl hw hd (.inl rfl) hws fun fr' q'=>?_
  rw [hlen];exact zUS (P:=fun v=>v=AV.tup [AV.lst 2 (wds 0 (ws++[(w,(i:Int))])),AV.agg [AV.int IntKind.i64 0,AV.int IntKind.i64 0]]) rfl
 | w::x::r,i,f,fr,q,ws,_,hg,hd,hws=>by
  have ej:z5 [32] (w::x::r)=w++(32::z5 [32] (x::r)):=by simp [zHa]
  rw [ej] at hd;have hw:=hg w (.head _);have hd2:=(zDg (zJK hd)).2.2;have hne:w≠[]:=by
   rcases hw with h | ⟨key,r,rfl,_⟩
   ·exact h.1
   ·simp
  have hlen:=zPe hne hd;have h0:0<w.length:=List.length_pos_iff.2 hne;obtain ⟨us,h1,_⟩:=zJL hl (x::r) (i+w.length+1) f 0 0 (ws++[(w,(i:Int))]) (by simp) (fun y hy=>hg y (.tail _ hy)) hd2 (by rw [List.length_append];simp;omega)
  have all:∀fr' q',∃us:List Wd,us.map Prod.fst=x::r/\Wp (CL line (f+(z5 [32] (x::r)).length+2) 0 fr' q' (i+w.length+1) a b (ws++[(w,(i:Int))])) fun v=>v=.tup [.lst 2 (wds 0 ((ws++[(w,(i:Int))])++us)),.agg [.int .i64 0,.int .i64 0]]:=fun fr' q'=>
   zJL hl (x::r) (i+w.length+1) f fr' q' (ws++[(w,(i:Int))]) (by simp) (fun y hy=>hg y (.tail _ hy)) hd2 (by rw [List.length_append];simp;omega)
  have e:f+(z5 [32] (w::x::r)).length+2=(f+(z5 [32] (x::r)).length+2)+w.length+1:=by rw [ej,List.length_append,List.length_cons];omega
  rw [e];have key:∃us:List Wd,us.map Prod.fst=w::x::r/\Wp (CL line (f+(z5 [32] (x::r)).length+2+w.length+1) 0 fr q i a b ws) fun v=>∃us:List Wd,us.map Prod.fst=w::x::r/\v=.tup [.lst 2 (wds 0 (ws++us)),.agg [.int .i64 0,.int .i64 0]]:=by
   refine ⟨(w,(i:Int))::us,by rw [List.map_cons,h1],zNR hl hw hd (.inr ⟨_,rfl⟩) hws fun fr' q'=>?_⟩
   obtain ⟨us',k1,k2⟩:=all fr' q';exact k2.mono fun v hv=>⟨(w,(i:Int))::us',by rw [List.map_cons,k1],by rw [hv,List.append_assoc];rfl⟩
  obtain ⟨_,_,v,hv,us',k1,k2⟩:=key;exact ⟨us',k1,v,hv,k2⟩
end
theorem zR6 {c:Nat}:∀{W:List (List Nat)},c∈z5 [32] W->c=32\/∃w∈W,c∈w
 | [],h=>by cases h
 | w::r,h=>by
  rw [zHa] at h;rcases List.mem_append.1 h with h | h
  ·exact .inr ⟨w,.head _,h⟩
  ·obtain ⟨y,hy,hc⟩:=List.mem_flatten.1 h;obtain ⟨x,hx,rfl⟩:=List.mem_map.1 hy;rcases List.mem_cons.1 hc with h | h
   ·exact .inl h
   ·exact .inr ⟨x,.tail _ hx,h⟩
def okT (c:Nat):Prop:=32<=c/\c<=126/\c≠35
theorem zUT {w:List Nat} (hw:zIi w):∀c∈w,okT c:=fun c hc=>by
 rcases hw with ⟨_,h⟩ | ⟨key,r,rfl,⟨_,hk⟩,_,hr⟩
 ·obtain ⟨h1,h2,h3,h4⟩:=h c hc;exact ⟨by omega,h2,h4⟩
 ·rcases List.mem_append.1 hc with hc | hc
  ·rcases List.mem_append.1 hc with hc | hc
   ·obtain ⟨h1,h2,h3,h4⟩:=hk c hc;exact ⟨by omega,h2,h4⟩
   ·rw [List.mem_singleton.1 hc];exact ⟨by decide,by decide,by decide⟩
  ·rcases List.mem_cons.1 hc with rfl | hc
   ·exact ⟨by decide,by decide,by decide⟩
   ·rcases List.mem_append.1 hc with hc | hc
    ·obtain ⟨h1,h2,h3,h4⟩:=hr c hc;exact ⟨h1,h2,h4⟩
    ·rw [List.mem_singleton.1 hc];exact ⟨by decide,by decide,by decide⟩
theorem zQc {W:List (List Nat)} (h:∀w∈W,zIi w):∀c∈z5 [32] W,okT c:=fun c hc=>by
 rcases zR6 hc with rfl | ⟨w,hw,hc⟩
 ·exact ⟨by decide,by decide,by decide⟩
 ·exact zUT (h w hw) c hc
theorem zR7 {W:List (List Nat)} (hne:W≠[]) (h:∀w∈W,zIi w) (hl:(z5 [32] W).length<=65536):∃us:List Wd,us.map Prod.fst=W/\zBU (z5 [32] W) 0=some (.tup [.lst 2 (wds 0 us),.agg [.int .i64 0,.int .i64 0]]):=by
 have hok:=zQc h;have hre:zFl (z5 [32] W)=some (.int .i64 (-1)):=by
  refine zCn ?_
  rw [zHK];refine qk_i (zVN (fun x hx=>?_) (by decide) fun hm=>(hok 35 hm).2.2 rfl) (Wp.mk rfl)
  have:=(hok x hx).2.1;omega
 have hf:FUEL=(FUEL-((z5 [32] W).length+2))+(z5 [32] W).length+2:=by
  have:=z0 (n:=(z5 [32] W).length+2) (by omega)
  omega
 obtain ⟨us,h1,v,hv,rfl⟩:=zJL (a:=0) (b:=0) hl W 0 (FUEL-((z5 [32] W).length+2)) 0 0 [] hne h rfl (Nat.le_refl _);rw [←hf] at hv;refine ⟨us,h1,zCn ?_⟩
 rw [zGJ];refine qk_i hre (Wp.ite (fun h=>by omega) fun _=>?_)
 rw [zFv];exact ⟨_,hv,rfl⟩
end Go.Proofs.YtdeeimaahdgeaaaGreatDoor.spec
namespace Go.Proofs.YtdeeimaahdgeaaaGreatDoor.spec
open Go Go.Sy
variable [MX]
theorem zQd (c:Nat) (v:List Nat):∀key:List Nat,c ∉ key->cut1 c (key++(c::v))=(key,v,true)
 | [],_=>by
  show cut1 c (c::v)=_
  unfold cut1;rw [zRN]
 | x::r,h=>by
  have ih:=zQd c v r fun hm=>h (.tail _ hm)
  show cut1 c (x::(r++(c::v)))=_
  unfold cut1;have:Nat.beq x c=false:=by
   cases e:Nat.beq x c with
   | false=>rfl
   | true=>exact absurd (.head _) (zb e▸h)
  rw [this,ih]
theorem zR8 {key v:List Nat} (h:61 ∉ key) (hl:(key++(61::v)).length<=65536):zGH (key++(61::v)) [61]=some (.tup [.str key,.str v,.bool true]):=by
 show cutG [.str (key++(61::v)),.str [61]]=_
 unfold cutG;simp only;have h1:Nat.blt (key++(61::v)).length 4294967281=true:=by rw [Nat.blt_eq];omega
 have h2:Nat.blt 61 256=true:=rfl;rw [h1,h2,zQd 61 v key h];rfl
theorem zAF {key v:List Nat} (h:61 ∉ key) (hl:(key++(61::v)).length<=65536) (hv:∀c∈v,c≠34):zK (key++(61::v))=some (.tup [.str key,.str v,.bool true]):=by
 refine zCn ?_
 rw [zF6];refine zAJ (zR8 h hl) ?_
 have j1:Wp (zBw key v true false) fun x=>x=.tup [.str key,.str v,.bool true]:=by
  rw [zEk];refine Wp.if (fun h=>by cases h) fun _=>?_
  rw [zEj];exact Wp.mk rfl
 refine Wp.ite (fun h2=>?_) fun _=>j1
 cases v with
 | nil=>exact absurd h2 (by decide)
 | cons c r=>
  refine Wp.bd (R:=fun x=>x=c) ⟨c,rfl,rfl⟩ fun x hx=>?_
  subst hx;exact Wp.if (fun h=>absurd ((beqN (y:=34)).1 h) (hv x (.head _))) fun _=>j1
theorem zQT {key r:List Nat} (h:61 ∉ key) (hl:(key++(61::(34::(r++[34])))).length<=65536):zK (key++(61::(34::(r++[34]))))=some (.tup [.str key,.str r,.bool true]):=by
 refine zCn ?_
 rw [zF6];refine zAJ (zR8 h hl) ?_
 have hL:(34::(r++[34])).length=r.length+2:=by simp
 have hr:r.length<=65536:=by
  have:r.length<=(key++(61::(34::(r++[34])))).length:=by simp;omega
  omega
 refine Wp.ite (fun _=>?_) fun h=>absurd (show (2:Int)<=Int.ofNat (34::(r++[34])).length by rw [hL,Int.ofNat_eq_natCast];omega) h
 refine Wp.bd (R:=fun x=>x=34) ⟨34,rfl,rfl⟩ fun x hx=>?_
 subst hx;refine Wp.if (fun _=>?_) fun h=>by cases h
 have e1:wrapx .i64 (Int.ofNat (34::(r++[34])).length-1)=Int.ofNat (r.length+1):=by
  rw [zCE (by rw [hL];omega) (by rw [hL];omega),hL];rfl
 rw [e1];refine Wp.bd (R:=fun x=>x=34) ⟨34,?_,rfl⟩ fun x hx=>?_
 ·show (34::(r++[34]))[r.length+1]? = _
  simp
 ·subst hx;rw [zEk];refine Wp.if (fun _=>?_) fun h=>by cases h
  rw [e1];refine Wp.gd ⟨by decide,by rw [Int.ofNat_eq_natCast];omega,by rw [hL,Int.ofNat_eq_natCast,Int.ofNat_eq_natCast];omega⟩ ?_
  rw [zEj];have e:List.drop (Int.toNat 1) (List.take (Int.toNat (Int.ofNat (r.length+1))) (34::(r++[34])))=r:=by
   show List.drop 1 (List.take (r.length+1) (34::(r++[34])))=r
   simp
  rw [e];exact Wp.mk rfl
end Go.Proofs.YtdeeimaahdgeaaaGreatDoor.spec
namespace Go.Proofs.YtdeeimaahdgeaaaGreatDoor.spec
open Go Go.Sy
variable [MX]
theorem zBJ (s:List Nat):∀ns:List (List Nat),s ∉ ns->mput false [Kd.s] (.str s) (.bool true) (mapN ns)=some (mapN (ns++[s]))
 | [],_=>rfl
 | t::r,h=>by
  have ih:=zBJ s r fun hm=>h (.tail _ hm)
  have hne:seqb s t=false:=by
   cases e:seqb s t with
   | false=>rfl
   | true=>exact absurd (.head _) (zCX e▸h)
  have hne':seqb t s=false:=by
   cases e:seqb t s with
   | false=>rfl
   | true=>exact absurd (.head _) (zCX e▸h)
  unfold mapN at ih ⊢;have e:eqb Kd.s (.str s) (.str t)=some (seqb s t):=rfl;simp only [List.map_cons,List.cons_append,mput,eqk,e,hne,ih]
theorem zC1 (s:List Nat) (ns:List (List Nat)) (h:s ∉ ns):lkR false (AV.bool false) (mfind false [Kd.s] (.str s) (mapN ns))=some (.bool false):=by
 rw [zIJ,if_neg h];rfl
section
variable {l0 us:List AV} {N:Int} {f i:Nat} {k b c d x1 x2 x3 x4 ba:Int} {n u i_ v w:List Nat} {r:List AV} {e0 e3 e4 e5 e7 e8 e9 e10 e12 g0 g1 p:Int} {e1 e2 e6:List Nat} {ns:List (List Nat)} {P:AV->Prop}
theorem zTc {y:List Nat} (hlt:Int.ofNat i<N) (hi9:i<1000000) (hi:ixN us (Int.ofNat i)=some (.agg [.str ([117,115,101,114]++(61::w)),.int .i64 p])) (hv:zK ([117,115,101,114]++(61::w))=some (.tup [.str [117,115,101,114],.str v,.bool true])) (hs:[117,115,101,114] ∉ ns) (hh:zc k [117,115,101,114]=some (.bool true))
  (hr:zBk k n u b c d i_ x1 x2 x3 x4 r ba v=some (.bool true,[(0,.cells false [.int .i64 k,.str n,.str y,.int .i64 b,.int .i64 c,.int .i64 d,.str i_,.int .i64 x1,.int .i64 x2,.int .i64 x3,.int .i64 x4,.lst 6 r,.int .i64 ba,.str v])],[]))
  (q:Wp (zd f l0 us N (Int.ofNat (i+1)) k n y b c d i_ x1 x2 x3 x4 r ba v e0 e1 e2 e3 e4 e5 e6 e7 e8 e9 e10 e12 g0 g1 (mapN (ns++[[117,115,101,114]]))) P) {v0:List Nat}:Wp (zd (f+1) l0 us N (Int.ofNat i) k n u b c d i_ x1 x2 x3 x4 r ba v0 e0 e1 e2 e3 e4 e5 e6 e7 e8 e9 e10 e12 g0 g1 (mapN ns)) P:=by
 rw [zt];refine Wp.ite (fun _=>zAB hi (zAJ hv (zEb zX ?_))) fun h=>absurd hlt h
 refine Wp.if (fun _=>?_) fun h=>absurd h (by decide)
 refine Wp.if (fun h=>by cases h) fun _=>qk_b (zC1 _ ns hs) (Wp.if (fun h=>by cases h) fun _=>qk_b hh ?_)
 rw [zEX];refine Wp.if (fun h=>by cases h) fun _=>?_
 rw [zEW,zBJ _ ns hs];refine Wp.bd (R:=fun m=>m=mapN (ns++[[117,115,101,114]])) ⟨_,rfl,rfl⟩ fun m hm=>?_
 subst hm;refine zx hr (Wp.if (fun h=>by cases h) fun _=>?_)
 rw [zo (by omega)]
 exact q
theorem zTd {y:Int} (hlt:Int.ofNat i<N) (hi9:i<1000000) (hi:ixN us (Int.ofNat i)=some (.agg [.str ([98,97,110,100]++(61::w)),.int .i64 p])) (hv:zK ([98,97,110,100]++(61::w))=some (.tup [.str [98,97,110,100],.str v,.bool true])) (hs:[98,97,110,100] ∉ ns) (hh:zc k [98,97,110,100]=some (.bool true))
  (hr:zBl k n u b c d i_ x1 x2 x3 x4 r ba v=some (.bool true,[(0,.cells false [.int .i64 k,.str n,.str u,.int .i64 y,.int .i64 c,.int .i64 d,.str i_,.int .i64 x1,.int .i64 x2,.int .i64 x3,.int .i64 x4,.lst 6 r,.int .i64 ba,.str v])],[]))
  (q:Wp (zd f l0 us N (Int.ofNat (i+1)) k n u y c d i_ x1 x2 x3 x4 r ba v e0 e1 e2 e3 e4 e5 e6 e7 e8 e9 e10 e12 g0 g1 (mapN (ns++[[98,97,110,100]]))) P) {v0:List Nat}:Wp (zd (f+1) l0 us N (Int.ofNat i) k n u b c d i_ x1 x2 x3 x4 r ba v0 e0 e1 e2 e3 e4 e5 e6 e7 e8 e9 e10 e12 g0 g1 (mapN ns)) P:=by
 rw [zt];refine Wp.ite (fun _=>zAB hi (zAJ hv (zEb zX ?_))) fun h=>absurd hlt h
 refine Wp.if (fun h=>absurd h (by decide)) fun _=>?_
 refine Wp.if (fun _=>?_) fun h=>absurd h (by decide)
 refine Wp.if (fun h=>by cases h) fun _=>qk_b (zC1 _ ns hs) (Wp.if (fun h=>by cases h) fun _=>qk_b hh ?_)
 rw [zEZ];refine Wp.if (fun h=>by cases h) fun _=>?_
 rw [zEY,zBJ _ ns hs];refine Wp.bd (R:=fun m=>m=mapN (ns++[[98,97,110,100]])) ⟨_,rfl,rfl⟩ fun m hm=>?_
 subst hm;refine zx hr (Wp.if (fun h=>by cases h) fun _=>?_)
 rw [zo (by omega)]
 exact q
theorem zR9 {y:Int} (hlt:Int.ofNat i<N) (hi9:i<1000000) (hi:ixN us (Int.ofNat i)=some (.agg [.str ([99,111,117,110,116]++(61::w)),.int .i64 p])) (hv:zK ([99,111,117,110,116]++(61::w))=some (.tup [.str [99,111,117,110,116],.str v,.bool true])) (hs:[99,111,117,110,116] ∉ ns) (hh:zc k [99,111,117,110,116]=some (.bool true))
  (hr:zAX k n u b c d i_ x1 x2 x3 x4 r ba v=some (.bool true,[(0,.cells false [.int .i64 k,.str n,.str u,.int .i64 b,.int .i64 y,.int .i64 d,.str i_,.int .i64 x1,.int .i64 x2,.int .i64 x3,.int .i64 x4,.lst 6 r,.int .i64 ba,.str v])],[]))
  (q:Wp (zd f l0 us N (Int.ofNat (i+1)) k n u b y d i_ x1 x2 x3 x4 r ba v e0 e1 e2 e3 e4 e5 e6 e7 e8 e9 e10 e12 g0 g1 (mapN (ns++[[99,111,117,110,116]]))) P) {v0:List Nat}:Wp (zd (f+1) l0 us N (Int.ofNat i) k n u b c d i_ x1 x2 x3 x4 r ba v0 e0 e1 e2 e3 e4 e5 e6 e7 e8 e9 e10 e12 g0 g1 (mapN ns)) P:=by
 rw [zt];refine Wp.ite (fun _=>zAB hi (zAJ hv (zEb zX ?_))) fun h=>absurd hlt h
 refine Wp.if (fun h=>absurd h (by decide)) fun _=>?_
 refine Wp.if (fun h=>absurd h (by decide)) fun _=>?_
 refine Wp.if (fun _=>?_) fun h=>absurd h (by decide)
 refine Wp.if (fun h=>by cases h) fun _=>qk_b (zC1 _ ns hs) (Wp.if (fun h=>by cases h) fun _=>qk_b hh ?_)
 rw [zE1];refine Wp.if (fun h=>by cases h) fun _=>?_
 rw [zE0,zBJ _ ns hs];refine Wp.bd (R:=fun m=>m=mapN (ns++[[99,111,117,110,116]])) ⟨_,rfl,rfl⟩ fun m hm=>?_
 subst hm;refine zx hr (Wp.if (fun h=>by cases h) fun _=>?_)
 rw [zo (by omega)]
 exact q
theorem zTe {y:Int} (hlt:Int.ofNat i<N) (hi9:i<1000000) (hi:ixN us (Int.ofNat i)=some (.agg [.str ([100,111,119,110]++(61::w)),.int .i64 p])) (hv:zK ([100,111,119,110]++(61::w))=some (.tup [.str [100,111,119,110],.str v,.bool true])) (hs:[100,111,119,110] ∉ ns) (hh:zc k [100,111,119,110]=some (.bool true))
  (hr:zBm k n u b c d i_ x1 x2 x3 x4 r ba v=some (.bool true,[(0,.cells false [.int .i64 k,.str n,.str u,.int .i64 b,.int .i64 c,.int .i64 y,.str i_,.int .i64 x1,.int .i64 x2,.int .i64 x3,.int .i64 x4,.lst 6 r,.int .i64 ba,.str v])],[]))
  (q:Wp (zd f l0 us N (Int.ofNat (i+1)) k n u b c y i_ x1 x2 x3 x4 r ba v e0 e1 e2 e3 e4 e5 e6 e7 e8 e9 e10 e12 g0 g1 (mapN (ns++[[100,111,119,110]]))) P) {v0:List Nat}:Wp (zd (f+1) l0 us N (Int.ofNat i) k n u b c d i_ x1 x2 x3 x4 r ba v0 e0 e1 e2 e3 e4 e5 e6 e7 e8 e9 e10 e12 g0 g1 (mapN ns)) P:=by
 rw [zt];refine Wp.ite (fun _=>zAB hi (zAJ hv (zEb zX ?_))) fun h=>absurd hlt h
 refine Wp.if (fun h=>absurd h (by decide)) fun _=>?_
 refine Wp.if (fun h=>absurd h (by decide)) fun _=>?_
 refine Wp.if (fun h=>absurd h (by decide)) fun _=>?_
 refine Wp.if (fun _=>?_) fun h=>absurd h (by decide)
 refine Wp.if (fun h=>by cases h) fun _=>qk_b (zC1 _ ns hs) (Wp.if (fun h=>by cases h) fun _=>qk_b hh ?_)
 rw [zE3];refine Wp.if (fun h=>by cases h) fun _=>?_
 rw [zE2,zBJ _ ns hs];refine Wp.bd (R:=fun m=>m=mapN (ns++[[100,111,119,110]])) ⟨_,rfl,rfl⟩ fun m hm=>?_
 subst hm;refine zx hr (Wp.if (fun h=>by cases h) fun _=>?_)
 rw [zo (by omega)]
 exact q
theorem zVQ {y:List Nat} (hlt:Int.ofNat i<N) (hi9:i<1000000) (hi:ixN us (Int.ofNat i)=some (.agg [.str ([105,110]++(61::w)),.int .i64 p])) (hv:zK ([105,110]++(61::w))=some (.tup [.str [105,110],.str v,.bool true])) (hs:[105,110] ∉ ns) (hh:zc k [105,110]=some (.bool true))
  (hr:zCf k n u b c d i_ x1 x2 x3 x4 r ba v=some (.bool true,[(0,.cells false [.int .i64 k,.str n,.str u,.int .i64 b,.int .i64 c,.int .i64 d,.str y,.int .i64 x1,.int .i64 x2,.int .i64 x3,.int .i64 x4,.lst 6 r,.int .i64 ba,.str v])],[]))
  (q:Wp (zd f l0 us N (Int.ofNat (i+1)) k n u b c d y x1 x2 x3 x4 r ba v e0 e1 e2 e3 e4 e5 e6 e7 e8 e9 e10 e12 g0 g1 (mapN (ns++[[105,110]]))) P) {v0:List Nat}:Wp (zd (f+1) l0 us N (Int.ofNat i) k n u b c d i_ x1 x2 x3 x4 r ba v0 e0 e1 e2 e3 e4 e5 e6 e7 e8 e9 e10 e12 g0 g1 (mapN ns)) P:=by
 rw [zt];refine Wp.ite (fun _=>zAB hi (zAJ hv (zEb zX ?_))) fun h=>absurd hlt h
 refine Wp.if (fun h=>absurd h (by decide)) fun _=>?_
 refine Wp.if (fun h=>absurd h (by decide)) fun _=>?_
 refine Wp.if (fun h=>absurd h (by decide)) fun _=>?_
 refine Wp.if (fun h=>absurd h (by decide)) fun _=>?_
 refine Wp.if (fun _=>?_) fun h=>absurd h (by decide)
 refine Wp.if (fun h=>by cases h) fun _=>qk_b (zC1 _ ns hs) (Wp.if (fun h=>by cases h) fun _=>qk_b hh ?_)
 rw [zEn];refine Wp.if (fun h=>by cases h) fun _=>?_
 rw [zEm,zBJ _ ns hs];refine Wp.bd (R:=fun m=>m=mapN (ns++[[105,110]])) ⟨_,rfl,rfl⟩ fun m hm=>?_
 subst hm;refine zx hr (Wp.if (fun h=>by cases h) fun _=>?_)
 rw [zo (by omega)]
 exact q
theorem zUU {y:Int} (hlt:Int.ofNat i<N) (hi9:i<1000000) (hi:ixN us (Int.ofNat i)=some (.agg [.str ([99,112,117]++(61::w)),.int .i64 p])) (hv:zK ([99,112,117]++(61::w))=some (.tup [.str [99,112,117],.str v,.bool true])) (hs:[99,112,117] ∉ ns) (hh:zc k [99,112,117]=some (.bool true))
  (hr:zBM k n u b c d i_ x1 x2 x3 x4 r ba v=some (.bool true,[(0,.cells false [.int .i64 k,.str n,.str u,.int .i64 b,.int .i64 c,.int .i64 d,.str i_,.int .i64 y,.int .i64 x2,.int .i64 x3,.int .i64 x4,.lst 6 r,.int .i64 ba,.str v])],[]))
  (q:Wp (zd f l0 us N (Int.ofNat (i+1)) k n u b c d i_ y x2 x3 x4 r ba v e0 e1 e2 e3 e4 e5 e6 e7 e8 e9 e10 e12 g0 g1 (mapN (ns++[[99,112,117]]))) P) {v0:List Nat}:Wp (zd (f+1) l0 us N (Int.ofNat i) k n u b c d i_ x1 x2 x3 x4 r ba v0 e0 e1 e2 e3 e4 e5 e6 e7 e8 e9 e10 e12 g0 g1 (mapN ns)) P:=by
 rw [zt];refine Wp.ite (fun _=>zAB hi (zAJ hv (zEb zX ?_))) fun h=>absurd hlt h
 refine Wp.if (fun h=>absurd h (by decide)) fun _=>?_
 refine Wp.if (fun h=>absurd h (by decide)) fun _=>?_
 refine Wp.if (fun h=>absurd h (by decide)) fun _=>?_
 refine Wp.if (fun h=>absurd h (by decide)) fun _=>?_
 refine Wp.if (fun h=>absurd h (by decide)) fun _=>?_
 refine Wp.if (fun _=>?_) fun h=>absurd h (by decide)
 refine Wp.if (fun h=>by cases h) fun _=>qk_b (zC1 _ ns hs) (Wp.if (fun h=>by cases h) fun _=>qk_b hh ?_)
 rw [zEp];refine Wp.if (fun h=>by cases h) fun _=>?_
 rw [zEo,zBJ _ ns hs];refine Wp.bd (R:=fun m=>m=mapN (ns++[[99,112,117]])) ⟨_,rfl,rfl⟩ fun m hm=>?_
 subst hm;refine zx hr (Wp.if (fun h=>by cases h) fun _=>?_)
 rw [zo (by omega)]
 exact q
theorem zUV {y:Int} (hlt:Int.ofNat i<N) (hi9:i<1000000) (hi:ixN us (Int.ofNat i)=some (.agg [.str ([114,97,109]++(61::w)),.int .i64 p])) (hv:zK ([114,97,109]++(61::w))=some (.tup [.str [114,97,109],.str v,.bool true])) (hs:[114,97,109] ∉ ns) (hh:zc k [114,97,109]=some (.bool true))
  (hr:zBN k n u b c d i_ x1 x2 x3 x4 r ba v=some (.bool true,[(0,.cells false [.int .i64 k,.str n,.str u,.int .i64 b,.int .i64 c,.int .i64 d,.str i_,.int .i64 x1,.int .i64 y,.int .i64 x3,.int .i64 x4,.lst 6 r,.int .i64 ba,.str v])],[]))
  (q:Wp (zd f l0 us N (Int.ofNat (i+1)) k n u b c d i_ x1 y x3 x4 r ba v e0 e1 e2 e3 e4 e5 e6 e7 e8 e9 e10 e12 g0 g1 (mapN (ns++[[114,97,109]]))) P) {v0:List Nat}:Wp (zd (f+1) l0 us N (Int.ofNat i) k n u b c d i_ x1 x2 x3 x4 r ba v0 e0 e1 e2 e3 e4 e5 e6 e7 e8 e9 e10 e12 g0 g1 (mapN ns)) P:=by
 rw [zt];refine Wp.ite (fun _=>zAB hi (zAJ hv (zEb zX ?_))) fun h=>absurd hlt h
 refine Wp.if (fun h=>absurd h (by decide)) fun _=>?_
 refine Wp.if (fun h=>absurd h (by decide)) fun _=>?_
 refine Wp.if (fun h=>absurd h (by decide)) fun _=>?_
 refine Wp.if (fun h=>absurd h (by decide)) fun _=>?_
 refine Wp.if (fun h=>absurd h (by decide)) fun _=>?_
 refine Wp.if (fun h=>absurd h (by decide)) fun _=>?_
 refine Wp.if (fun _=>?_) fun h=>absurd h (by decide)
 refine Wp.if (fun h=>by cases h) fun _=>qk_b (zC1 _ ns hs) (Wp.if (fun h=>by cases h) fun _=>qk_b hh ?_)
 rw [zEr];refine Wp.if (fun h=>by cases h) fun _=>?_
 rw [zEq,zBJ _ ns hs];refine Wp.bd (R:=fun m=>m=mapN (ns++[[114,97,109]])) ⟨_,rfl,rfl⟩ fun m hm=>?_
 subst hm;refine zx hr (Wp.if (fun h=>by cases h) fun _=>?_)
 rw [zo (by omega)]
 exact q
theorem zTf {y:Int} (hlt:Int.ofNat i<N) (hi9:i<1000000) (hi:ixN us (Int.ofNat i)=some (.agg [.str ([100,105,115,107]++(61::w)),.int .i64 p])) (hv:zK ([100,105,115,107]++(61::w))=some (.tup [.str [100,105,115,107],.str v,.bool true])) (hs:[100,105,115,107] ∉ ns) (hh:zc k [100,105,115,107]=some (.bool true))
  (hr:zBn k n u b c d i_ x1 x2 x3 x4 r ba v=some (.bool true,[(0,.cells false [.int .i64 k,.str n,.str u,.int .i64 b,.int .i64 c,.int .i64 d,.str i_,.int .i64 x1,.int .i64 x2,.int .i64 y,.int .i64 x4,.lst 6 r,.int .i64 ba,.str v])],[]))
  (q:Wp (zd f l0 us N (Int.ofNat (i+1)) k n u b c d i_ x1 x2 y x4 r ba v e0 e1 e2 e3 e4 e5 e6 e7 e8 e9 e10 e12 g0 g1 (mapN (ns++[[100,105,115,107]]))) P) {v0:List Nat}:Wp (zd (f+1) l0 us N (Int.ofNat i) k n u b c d i_ x1 x2 x3 x4 r ba v0 e0 e1 e2 e3 e4 e5 e6 e7 e8 e9 e10 e12 g0 g1 (mapN ns)) P:=by
 rw [zt];refine Wp.ite (fun _=>zAB hi (zAJ hv (zEb zX ?_))) fun h=>absurd hlt h
 refine Wp.if (fun h=>absurd h (by decide)) fun _=>?_
 refine Wp.if (fun h=>absurd h (by decide)) fun _=>?_
 refine Wp.if (fun h=>absurd h (by decide)) fun _=>?_
 refine Wp.if (fun h=>absurd h (by decide)) fun _=>?_
 refine Wp.if (fun h=>absurd h (by decide)) fun _=>?_
 refine Wp.if (fun h=>absurd h (by decide)) fun _=>?_
 refine Wp.if (fun h=>absurd h (by decide)) fun _=>?_
 refine Wp.if (fun _=>?_) fun h=>absurd h (by decide)
 refine Wp.if (fun h=>by cases h) fun _=>qk_b (zC1 _ ns hs) (Wp.if (fun h=>by cases h) fun _=>qk_b hh ?_)
 rw [zEt];refine Wp.if (fun h=>by cases h) fun _=>?_
 rw [zEs,zBJ _ ns hs];refine Wp.bd (R:=fun m=>m=mapN (ns++[[100,105,115,107]])) ⟨_,rfl,rfl⟩ fun m hm=>?_
 subst hm;refine zx hr (Wp.if (fun h=>by cases h) fun _=>?_)
 rw [zo (by omega)]
 exact q
theorem zSa {y:Int} (hlt:Int.ofNat i<N) (hi9:i<1000000) (hi:ixN us (Int.ofNat i)=some (.agg [.str ([112,111,114,116,115]++(61::w)),.int .i64 p])) (hv:zK ([112,111,114,116,115]++(61::w))=some (.tup [.str [112,111,114,116,115],.str v,.bool true])) (hs:[112,111,114,116,115] ∉ ns) (hh:zc k [112,111,114,116,115]=some (.bool true))
  (hr:zAY k n u b c d i_ x1 x2 x3 x4 r ba v=some (.bool true,[(0,.cells false [.int .i64 k,.str n,.str u,.int .i64 b,.int .i64 c,.int .i64 d,.str i_,.int .i64 x1,.int .i64 x2,.int .i64 x3,.int .i64 y,.lst 6 r,.int .i64 ba,.str v])],[]))
  (q:Wp (zd f l0 us N (Int.ofNat (i+1)) k n u b c d i_ x1 x2 x3 y r ba v e0 e1 e2 e3 e4 e5 e6 e7 e8 e9 e10 e12 g0 g1 (mapN (ns++[[112,111,114,116,115]]))) P) {v0:List Nat}:Wp (zd (f+1) l0 us N (Int.ofNat i) k n u b c d i_ x1 x2 x3 x4 r ba v0 e0 e1 e2 e3 e4 e5 e6 e7 e8 e9 e10 e12 g0 g1 (mapN ns)) P:=by
 rw [zt];refine Wp.ite (fun _=>zAB hi (zAJ hv (zEb zX ?_))) fun h=>absurd hlt h
 refine Wp.if (fun h=>absurd h (by decide)) fun _=>?_
 refine Wp.if (fun h=>absurd h (by decide)) fun _=>?_
 refine Wp.if (fun h=>absurd h (by decide)) fun _=>?_
 refine Wp.if (fun h=>absurd h (by decide)) fun _=>?_
 refine Wp.if (fun h=>absurd h (by decide)) fun _=>?_
 refine Wp.if (fun h=>absurd h (by decide)) fun _=>?_
 refine Wp.if (fun h=>absurd h (by decide)) fun _=>?_
 refine Wp.if (fun h=>absurd h (by decide)) fun _=>?_
 refine Wp.if (fun _=>?_) fun h=>absurd h (by decide)
 refine Wp.if (fun h=>by cases h) fun _=>qk_b (zC1 _ ns hs) (Wp.if (fun h=>by cases h) fun _=>qk_b hh ?_)
 rw [zEv];refine Wp.if (fun h=>by cases h) fun _=>?_
 rw [zEu,zBJ _ ns hs];refine Wp.bd (R:=fun m=>m=mapN (ns++[[112,111,114,116,115]])) ⟨_,rfl,rfl⟩ fun m hm=>?_
 subst hm;refine zx hr (Wp.if (fun h=>by cases h) fun _=>?_)
 rw [zo (by omega)]
 exact q
theorem zTg {y:List AV} (hlt:Int.ofNat i<N) (hi9:i<1000000) (hi:ixN us (Int.ofNat i)=some (.agg [.str ([114,117,108,101]++(61::w)),.int .i64 p])) (hv:zK ([114,117,108,101]++(61::w))=some (.tup [.str [114,117,108,101],.str v,.bool true])) (hs:[114,117,108,101] ∉ ns) (hh:zc k [114,117,108,101]=some (.bool true))
  (hr:zBp k n u b c d i_ x1 x2 x3 x4 r ba v=some (.bool true,[(0,.cells false [.int .i64 k,.str n,.str u,.int .i64 b,.int .i64 c,.int .i64 d,.str i_,.int .i64 x1,.int .i64 x2,.int .i64 x3,.int .i64 x4,.lst 6 y,.int .i64 ba,.str v])],[]))
  (q:Wp (zd f l0 us N (Int.ofNat (i+1)) k n u b c d i_ x1 x2 x3 x4 y ba v e0 e1 e2 e3 e4 e5 e6 e7 e8 e9 e10 e12 g0 g1 (mapN (ns++[[114,117,108,101]]))) P) {v0:List Nat}:Wp (zd (f+1) l0 us N (Int.ofNat i) k n u b c d i_ x1 x2 x3 x4 r ba v0 e0 e1 e2 e3 e4 e5 e6 e7 e8 e9 e10 e12 g0 g1 (mapN ns)) P:=by
 rw [zt];refine Wp.ite (fun _=>zAB hi (zAJ hv (zEb zX ?_))) fun h=>absurd hlt h
 refine Wp.if (fun h=>absurd h (by decide)) fun _=>?_
 refine Wp.if (fun h=>absurd h (by decide)) fun _=>?_
 refine Wp.if (fun h=>absurd h (by decide)) fun _=>?_
 refine Wp.if (fun h=>absurd h (by decide)) fun _=>?_
 refine Wp.if (fun h=>absurd h (by decide)) fun _=>?_
 refine Wp.if (fun h=>absurd h (by decide)) fun _=>?_
 refine Wp.if (fun h=>absurd h (by decide)) fun _=>?_
 refine Wp.if (fun h=>absurd h (by decide)) fun _=>?_
 refine Wp.if (fun h=>absurd h (by decide)) fun _=>?_
 refine Wp.if (fun _=>?_) fun h=>absurd h (by decide)
 refine Wp.if (fun h=>by cases h) fun _=>qk_b (zC1 _ ns hs) (Wp.if (fun h=>by cases h) fun _=>qk_b hh ?_)
 rw [zEx];refine Wp.if (fun h=>by cases h) fun _=>?_
 rw [zEw,zBJ _ ns hs];refine Wp.bd (R:=fun m=>m=mapN (ns++[[114,117,108,101]])) ⟨_,rfl,rfl⟩ fun m hm=>?_
 subst hm;refine zx hr (Wp.if (fun h=>by cases h) fun _=>?_)
 rw [zo (by omega)]
 exact q
theorem zSb {y:Int} (hlt:Int.ofNat i<N) (hi9:i<1000000) (hi:ixN us (Int.ofNat i)=some (.agg [.str ([98,97,116,99,104]++(61::w)),.int .i64 p])) (hv:zK ([98,97,116,99,104]++(61::w))=some (.tup [.str [98,97,116,99,104],.str v,.bool true])) (hs:[98,97,116,99,104] ∉ ns) (hh:zc k [98,97,116,99,104]=some (.bool true))
  (hr:zA0 k n u b c d i_ x1 x2 x3 x4 r ba v=some (.bool true,[(0,.cells false [.int .i64 k,.str n,.str u,.int .i64 b,.int .i64 c,.int .i64 d,.str i_,.int .i64 x1,.int .i64 x2,.int .i64 x3,.int .i64 x4,.lst 6 r,.int .i64 y,.str v])],[]))
  (q:Wp (zd f l0 us N (Int.ofNat (i+1)) k n u b c d i_ x1 x2 x3 x4 r y v e0 e1 e2 e3 e4 e5 e6 e7 e8 e9 e10 e12 g0 g1 (mapN (ns++[[98,97,116,99,104]]))) P) {v0:List Nat}:Wp (zd (f+1) l0 us N (Int.ofNat i) k n u b c d i_ x1 x2 x3 x4 r ba v0 e0 e1 e2 e3 e4 e5 e6 e7 e8 e9 e10 e12 g0 g1 (mapN ns)) P:=by
 rw [zt];refine Wp.ite (fun _=>zAB hi (zAJ hv (zEb zX ?_))) fun h=>absurd hlt h
 refine Wp.if (fun h=>absurd h (by decide)) fun _=>?_
 refine Wp.if (fun h=>absurd h (by decide)) fun _=>?_
 refine Wp.if (fun h=>absurd h (by decide)) fun _=>?_
 refine Wp.if (fun h=>absurd h (by decide)) fun _=>?_
 refine Wp.if (fun h=>absurd h (by decide)) fun _=>?_
 refine Wp.if (fun h=>absurd h (by decide)) fun _=>?_
 refine Wp.if (fun h=>absurd h (by decide)) fun _=>?_
 refine Wp.if (fun h=>absurd h (by decide)) fun _=>?_
 refine Wp.if (fun h=>absurd h (by decide)) fun _=>?_
 refine Wp.if (fun h=>absurd h (by decide)) fun _=>?_
 refine Wp.if (fun _=>?_) fun h=>absurd h (by decide)
 refine Wp.if (fun h=>by cases h) fun _=>qk_b (zC1 _ ns hs) (Wp.if (fun h=>by cases h) fun _=>qk_b hh ?_)
 rw [zEz];refine Wp.if (fun h=>by cases h) fun _=>?_
 rw [zEy,zBJ _ ns hs];refine Wp.bd (R:=fun m=>m=mapN (ns++[[98,97,116,99,104]])) ⟨_,rfl,rfl⟩ fun m hm=>?_
 subst hm;refine zx hr (Wp.if (fun h=>by cases h) fun _=>?_)
 rw [zo (by omega)]
 exact q
end
end Go.Proofs.YtdeeimaahdgeaaaGreatDoor.spec
namespace Go.Proofs.YtdeeimaahdgeaaaGreatDoor.spec
open Go Go.Sy
variable [MX]
theorem zPf {us0:List Wd} {A B:List (List Nat)} {w:List Nat} (h:us0.map Prod.fst=A++(w::B)):∃p,ixN (wds 0 us0) (Int.ofNat A.length)=some (.agg [.str w,.int .i64 p])/\A.length<us0.length:=by
 have hl:=congrArg List.length h;rw [List.length_map,List.length_append,List.length_cons] at hl;have hlt:A.length<us0.length:=by omega
 have h1:(us0.map Prod.fst)[A.length]? = some w:=by rw [h];simp
 rw [List.getElem?_map,List.getElem?_eq_getElem hlt] at h1;have h1:us0[A.length].1=w:=by simpa using h1
 refine ⟨0+us0[A.length].2,?_,hlt⟩
 show (wds 0 us0)[A.length]? = _
 unfold wds;rw [List.getElem?_map,List.getElem?_eq_getElem hlt,←h1];rfl
theorem opt {T:Type} {F:T->Nat->Nat->List Nat->List (List Nat)->Option AV} {y0 y1:T} {us0:List Wd} {A B:List (List Nat)} {key v w:List Nat} {P:AV->Prop} {cond:Bool} {L:List (List Nat)} (hus:us0.map Prod.fst=A++((if cond=true then [key++(61::w)] else [])++B)) (hlen:us0.length<=1000) (h0:cond=false->y0=y1)
  (hyp:cond=true->∀f i ns v0 p,Int.ofNat i<Int.ofNat us0.length->i<1000000->ixN (wds 0 us0) (Int.ofNat i)=some (.agg [.str (key++(61::w)),.int .i64 p])->key ∉ ns->Wp (F y1 f (i+1) v (ns++[key])) P->Wp (F y0 (f+1) i v0 ns) P) (hL:key ∉ L)
  (q:∀f i ns v0,i=(A++(if cond=true then [key++(61::w)] else [])).length->us0.length-i<f->(∀s∈ns,s∈key::L)->Wp (F y1 f i v0 ns) P):
  ∀f i ns v0,i=A.length->us0.length-i<f->(∀s∈ns,s∈L)->Wp (F y0 f i v0 ns) P:=by
 intro f i ns v0 hi hf hns;cases cond with
 | false=>
  have:=h0 rfl;subst this;exact q f i ns v0 (by rw [hi];simp) hf fun s hs=>.tail _ (hns s hs)
 | true=>
  obtain ⟨p,hp,hlt⟩:=zPf (w:=key++(61::w)) (by simpa using hus)
  subst hi;cases f with
  | zero=>omega
  | succ f=>
   exact hyp rfl f A.length ns v0 p (Int.ofNat_lt.2 hlt) (by omega) hp (fun hm=>hL (hns _ hm)) (q f (A.length+1) _ v (by simp) (by omega) fun s hs=>by
    rcases List.mem_append.1 hs with hs | hs
    ·exact .tail _ (hns s hs)
    ·rw [List.mem_singleton.1 hs];exact .head _)
noncomputable abbrev LN (l0:List AV) (us0:List Wd) (k:Int) (n u:List Nat) (b c d:Int) (i_:List Nat) (x1 x2 x3 x4:Int) (r:List AV) (ba:Int) (f i:Nat) (v0:List Nat) (ns:List (List Nat)):Option AV:=zd f l0 (wds 0 us0) (Int.ofNat us0.length) (Int.ofNat i) k n u b c d i_ x1 x2 x3 x4 r ba v0 (Int.ofNat 0) [] [] (Int.ofNat 0) (Int.ofNat 0) (Int.ofNat 0) [] (Int.ofNat 0) (Int.ofNat 0) (Int.ofNat 0) (Int.ofNat 0) (Int.ofNat 0) (Int.ofNat 0) (Int.ofNat 0) (mapN ns)
end Go.Proofs.YtdeeimaahdgeaaaGreatDoor.spec
namespace Go.Proofs.YtdeeimaahdgeaaaGreatDoor.spec
open Go Go.Sy
variable [MX]
def nmC (c:Nat):Prop:=97<=c/\c<=122\/48<=c/\c<=57\/c=45
abbrev tt (G:Prop) (v:AV):Prop:=v=.bool true->G
abbrev zz (G:Prop) (v:AV):Prop:=v=.int .i64 0->G
theorem ff {G:Prop}:tt G (.bool false):=fun h=>by cases h
theorem zTD {o:Option AV} {G:Prop} (h:Wp o (tt G)) (e:o=some (.bool true)):G:=by
 obtain ⟨v,e',k⟩:=h;rw [e] at e';cases e';exact k rfl
theorem zTE {o:Option AV} {G:Prop} (h:Wp o (zz G)) (e:o=some (.int .i64 0)):G:=by
 obtain ⟨v,e',k⟩:=h;rw [e] at e';cases e';exact k rfl
theorem zCF {s:List Nat} (h:zq s=some (.bool true)):s≠[]/\s.length<=16/\∀c∈s,nmC c:=by
 have h16:=zSX h;refine zTD ?_ h
 have loop:∀(n i:Nat),i<=s.length->s.length-i<n->(∀j (hj:j<s.length),j<i->nmC s[j])->Wp (zC2 n (Int.ofNat s.length) (Int.ofNat i) (bytes s)) (tt (∀c∈s,nmC c)):=by
  intro n
  induction n with
  | zero=>intro i _ h;omega
  | succ n ih=>
   intro i hi hn hb;rw [zGP];refine Wp.lt (fun h=>zOX h (qk_u (zMN h) ?_)) fun hge=>Wp.mk fun _ c hc=>?_
   ·have next:∀b,(b=false->nmC s[i])->Wp (zAb n (Int.ofNat s.length) (Int.ofNat i) b (bytes s)) (tt (∀c∈s,nmC c)):=fun b hb'=>by
     rw [zGO];refine Wp.if (fun _=>Wp.mk ff) fun hf=>?_
     rw [zo (by omega)]
     refine ih (i+1) h (by omega) fun j hj hji=>?_
     rcases Nat.lt_or_ge j i with h' | h'
     ·exact hb j hj h'
     ·obtain rfl:j=i:=by omega
      exact hb' hf
    have d45:((Int.ofNat s[i] != 45)=false)->nmC s[i]:=fun h=>by
     have h:(s[i]:Int)=45:=by simpa using h
     exact .inr (.inr (by omega))
    refine Wp.ite (fun a=>?_) fun a=>Wp.ite (fun b=>?_) fun b=>next _ fun _=>.inl ?_
    ·refine Wp.ite (fun b=>next _ d45) fun b=>Wp.ite (fun c=>next _ d45) fun c=>next _ fun _=>.inr (.inl ?_)
     rw [Int.ofNat_eq_natCast] at b c;omega
    ·refine Wp.ite (fun b=>next _ d45) fun b=>Wp.ite (fun c=>next _ d45) fun c=>next _ fun _=>.inr (.inl ?_)
     rw [Int.ofNat_eq_natCast] at b c;omega
    ·rw [Int.ofNat_eq_natCast] at a b;omega
   ·obtain ⟨j,hj,rfl⟩:=List.getElem_of_mem hc;exact hb j hj (by omega)
 have j1:∀b,(b=false->s≠[])->Wp (zA5 s b) (tt (s≠[]/\s.length<=16/\∀c∈s,nmC c)):=fun b hb=>by
  rw [zET];refine Wp.if (fun _=>Wp.mk ff) fun hf=>?_
  rw [zGQ,List.length_map];exact (loop FUEL 0 (Nat.zero_le _) (z0 (by omega)) fun j hj h=>by omega).mono fun v k e=>⟨hb hf,h16,k e⟩
 rw [zGm];refine Wp.ite (fun _=>j1 _ fun h=>by cases h) fun h1=>Wp.ite (fun _=>j1 _ fun h=>by cases h) fun h2=>?_
 rw [Int.ofNat_eq_natCast] at h1;have hl:0<s.length:=by omega
 have hne:s≠[]:=List.length_pos_iff.1 hl;rw [show ixN s 0=some s[0] from zAW hl]
 exact Wp.ite (fun _=>j1 _ fun h=>by cases h) fun h1=>j1 _ fun _=>hne
theorem zIj (x l m:Int):∃b,zAx x l m=some (.bool b)/\(b=true->l<=x/\x<=m):=by
 rw [zHU];by_cases h:x>=l
 ·rw [decide_eq_true h];exact ⟨_,rfl,fun h'=>⟨h,of_decide_eq_true h'⟩⟩
 ·rw [decide_eq_false h];exact ⟨_,rfl,fun h'=>by cases h'⟩
theorem zPg (es fs:List AV) (h:Nds es) (h':Nds fs) (e:zO es fs=some (.bool true)):es=fs:=by
 refine zTD ?_ e
 have loop:es.length=fs.length->∀(n i:Nat),i<=es.length->es.length-i<n->(∀j,j<i->es[j]? = fs[j]?)->Wp (zF n es fs (Int.ofNat es.length) (Int.ofNat i)) (tt (es=fs)):=by
  intro hl n
  induction n with
  | zero=>intro i _ h;omega
  | succ n ih=>
   intro i hi hn hb;rw [zA1];refine Wp.lt (fun hlt=>?_) fun hge=>Wp.mk fun _=>?_
   ·have hlt':i<fs.length:=hl▸hlt
    obtain ⟨k,s,t,m,l,r,he,_⟩:=h.1 _ (List.getElem_mem hlt);obtain ⟨k2,s2,t2,m2,l2,r2,he2,_⟩:=h'.1 _ (List.getElem_mem hlt');refine zB2 ((zAW hlt).trans (congrArg some he)) (zB2 ((zAW hlt').trans (congrArg some he2)) (Wp.if (fun _=>Wp.mk ff) fun hq=>?_))
    rw [zo (by have:=h.2;omega)]
    refine ih (i+1) hlt (by omega) fun j hj=>?_
    rcases Nat.lt_or_ge j i with h1 | h1
    ·exact hb j h1
    ·obtain rfl:j=i:=by omega
     rw [List.getElem?_eq_getElem hlt,List.getElem?_eq_getElem hlt',he,he2];have hq:(!(k==k2&&(seqb s s2&&(seqb t t2&&(m==m2&&(l==l2&&r==r2))))))=false:=hq;rw [zGi,zGi] at hq;simp only [Bool.not_eq_false',Bool.and_eq_true,beq_iff_eq,decide_eq_true_eq] at hq;obtain ⟨rfl,rfl,rfl,rfl,rfl,rfl⟩:=hq;rfl
   ·refine List.ext_getElem? fun j=>?_
    rcases Nat.lt_or_ge j i with h1 | h1
    ·exact hb j h1
    ·rw [List.getElem?_eq_none (by omega),List.getElem?_eq_none (by omega)]
 rw [zBG];refine Wp.if (fun _=>Wp.mk ff) fun e=>loop ?_ _ 0 (Nat.zero_le _) (z0 (by have:=h.2;omega)) fun j hj=>by omega
 have e:(es.length:Int)=fs.length:=by simpa using e
 exact Int.ofNat_inj.1 e
def anyR:List AV:=[ndAV (Int.ofNat 1) [] [] (Int.ofNat 0) (Int.negSucc 0) (Int.negSucc 0)]
theorem zL4 {r:List AV} (hr:Nds r):∃b,zBq r=some (.bool b)/\(b=true->r=anyR):=by
 obtain ⟨_,e,b,rfl,_⟩:=zF3 r anyR hr zI6;refine ⟨b,zCn ?_,fun h=>zPg r anyR hr zI6 (h▸e)⟩
 rw [zIv];exact zP2 zAP (qk_b e (Wp.mk rfl))
def zI9 (r:List AV) (t:List Nat):Prop:=0<r.length/\okS t/\t.length<=1024/\zIL r=some (.tup [.str t,.int .i64 (Int.ofNat 0)])/\zBo t=some (.tup [.agg [.lst 6 r],.agg [.int .i64 (Int.ofNat 0),.int .i64 (Int.ofNat 0)]])
theorem zMU {r:List AV} (hr:Nds r) (h:zCj r=some (.int .i64 0)):∃t,zI9 r t:=by
 have hx:∃t,0<r.length/\okS t/\t.length<=1024/\zBf FUEL r (wrapx .i64 (Int.ofNat r.length-1))=some (.str t)/\zBo t=some (.tup [.agg [.lst 6 r],.agg [.int .i64 (Int.ofNat 0),.int .i64 (Int.ofNat 0)]]):=by
  refine zTE ?_ h
  have bad:∀{G:Prop},zz G (.int .i64 (Int.ofNat 2)):=fun {G} h=>by cases h
  rw [zIu];refine wk_b (zLF r hr) fun b hb=>Wp.if (fun _=>Wp.mk bad) fun hnb=>?_
  have hnb:b=true:=by simpa using hnb
  obtain ⟨h0,h64,L,hL⟩:=hb hnb;have hN:NC r:=fun j k s t n l r' e=>by
   obtain ⟨k',s',t',n',l',r'',he,_,_,hs,ht⟩:=hr.1 _ (List.mem_of_getElem? e);cases he;exact ⟨hs.2,ht.2⟩
  obtain ⟨_,e0,t,rfl,ht⟩:=zKQ hL hN h0 h64;refine qk_s e0 ?_
  obtain ⟨v,e,hv⟩:=zJG t fun c hc=>by have:=(ht c hc).2.1;omega
  have hlen:¬(Int.ofNat t.length > 1024)\/v=.tup [.agg [.nilslice],.agg [.int .i64 (Int.ofNat 3),.int .i64 (Int.negSucc 0)]]:=by
   by_cases h1:Int.ofNat t.length > 1024
   ·rw [zIt,decide_eq_true h1] at e;cases e;exact .inr rfl
   ·exact .inl h1
  rcases hv with ⟨x,f,rfl,hn⟩ | ⟨l,rfl,hw,hl⟩
  ·rw [e];show Wp (br (!(x==0&&f==0)) _ _) _
   exact Wp.if (fun _=>Wp.mk bad) fun hf=>absurd (zI4 (p:=⟨[],0,0,0,x,f,[],fun c hc=>by cases hc⟩) hf) hn
  ·have hlen:t.length<=1024:=by
    rcases hlen with h1 | h1
    ·rw [Int.ofNat_eq_natCast] at h1;omega
    ·cases h1
   refine zN0 e ?_
   refine Wp.if (fun _=>Wp.mk bad) fun _=>?_
   obtain ⟨_,e2,b2,rfl,_⟩:=zF3 l r (zOg hw hl) hr;refine qk_b e2 (Wp.if (fun _=>Wp.mk bad) fun hb2=>Wp.mk fun _=>⟨t,h0,ht,hlen,e0,?_⟩)
   have hb2:b2=true:=by simpa using hb2
   rw [e,zPg l r (zOg hw hl) hr (hb2▸e2)]
 obtain ⟨t,h0,h1,h2,h3,h4⟩:=hx;refine ⟨t,h0,h1,h2,zCn ?_,h4⟩
 rw [zNi];exact qk_i h (Wp.if (fun h=>by cases h) fun _=>qk_s h3 (Wp.mk rfl))
end Go.Proofs.YtdeeimaahdgeaaaGreatDoor.spec
namespace Go.Proofs.YtdeeimaahdgeaaaGreatDoor.spec
open Go Go.Sy
variable [MX]
def CK (k:Int) (u:List Nat) (b c d:Int) (i_:List Nat) (r:List AV) (ba:Int):Prop:=
 (k=1/\zq u=some (.bool true)/\(0<=b/\b<=3)/\(1<=c/\c<=64)/\(1<=d/\d<=c)/\ba=0/\(∃t,zI9 r t)/\(i_=[]\/zq i_=some (.bool true))) ∨
 (k=2/\zq u=some (.bool true)/\(0<=b/\b<=3)/\(1<=c/\c<=64)/\d=0/\i_=[]/\ba=0/\∃t,zI9 r t) ∨
 (k=3/\u=[]/\b=0/\c=0/\d=0/\i_=[]/\r=[]/\1<=ba/\ba<=64)
theorem len0 {r:List AV} (h:(Int.ofNat r.length==0)=true):r=[]:=by
 have h:(r.length:Int)=0:=by simpa using h
 exact List.length_eq_zero_iff.1 (by omega)
theorem j1F {G:Prop}:Wp (zh false) (zz G):=by
 rw [zEl];exact Wp.if (fun _=>Wp.mk fun h=>by cases h) fun h=>by cases h
theorem j1B {G:Prop} {t:Bool} (h:t=true->G):Wp (zh t) (zz G):=by
 cases t
 ·exact j1F
 ·rw [zEl];exact Wp.if (fun h=>by cases h) fun _=>Wp.mk fun _=>h rfl
section
variable {k:Int} {n:List Nat} {u:List Nat} {b:Int} {c:Int} {d:Int} {i_:List Nat} {x1:Int} {x2:Int} {x3:Int} {x4:Int} {r:List AV} {ba:Int} {G:Prop}
theorem j2B {t:Bool} (hr:Nds r) (h:t=true->(∃y,zI9 r y)->(i_=[]\/zq i_=some (.bool true))->G):Wp (zAh t k n u b c d i_ x1 x2 x3 x4 r ba) (zz G):=by
 rw [zGE];refine Wp.if (fun ht=>?_) fun _=>j1F
 obtain ⟨_,e,z,rfl,_⟩:=zG9 r hr;refine qk_i e (Wp.if (fun hz=>?_) fun _=>j1F)
 have hz:z=0:=by simpa using hz
 have hR:=zMU hr (hz▸e)
 refine Wp.if (fun hi=>?_) fun _=>?_
 ·have hi:i_=[]:=zCX hi;exact j1B fun _=>h ht hR (.inl hi)
 ·obtain ⟨_,e2,y,rfl,_⟩:=zB3 i_;refine qk_b e2 (Wp.if (fun hy=>?_) fun _=>j1F)
  obtain ⟨y2,e3,_⟩:=zL4 hr;exact qk_b e3 (j1B fun _=>h ht hR (.inr (hy▸e2)))
theorem zPG (hr:Nds r) (h:zAv k n u b c d i_ x1 x2 x3 x4 r ba=some (.int .i64 0)):zq n=some (.bool true)/\okA x1 x2 x3 x4/\CK k u b c d i_ r ba:=by
 refine zTE ?_ h
 have j0:∀{t:Bool},Wp (zBy t k n u b c d i_ x1 x2 x3 x4 r ba) (zz (t=true/\CK k u b c d i_ r ba)):=fun {t}=>by
  rw [zGG];obtain ⟨_,e,y,rfl,_⟩:=zB3 u;obtain ⟨w1,f1,g1⟩:=zIj b (Int.ofNat 0) (Int.ofNat 3);obtain ⟨w2,f2,g2⟩:=zIj c (Int.ofNat 1) (Int.ofNat 64);obtain ⟨w3,f3,g3⟩:=zIj d (Int.ofNat 1) c;obtain ⟨w4,f4,g4⟩:=zIj ba (Int.ofNat 1) (Int.ofNat 64);have F:=fun {t}=>j2B (k:=k) (n:=n) (u:=u) (b:=b) (c:=c) (d:=d) (i_:=i_) (x1:=x1) (x2:=x2) (x3:=x3) (x4:=x4) (ba:=ba) (t:=false) (G:=t=true/\CK k u b c d i_ r ba) hr fun h=>by cases h
  refine Wp.if (fun hk=>?_) fun _=>Wp.if (fun hk=>?_) fun _=>Wp.if (fun hk=>?_) fun _=>j1F
  ·refine Wp.if (fun ht=>qk_b e (Wp.if (fun hy=>qk_b f1 (Wp.if (fun h1=>qk_b f2 (Wp.if (fun h2=>qk_b f3 (Wp.if (fun h3=>j2B hr fun h4 hR hi=>⟨ht,.inl ⟨by simpa using hk,hy▸e,g1 h1,g2 h2,g3 h3,by simpa using h4,hR,hi⟩⟩) fun _=>F)) fun _=>F)) fun _=>F)) fun _=>F)) fun _=>F
  ·refine Wp.if (fun ht=>qk_b e (Wp.if (fun hy=>qk_b f1 (Wp.if (fun h1=>qk_b f2 (Wp.if (fun h2=>Wp.if (fun h3=>Wp.if (fun h4=>Wp.if (fun h5=>?_) fun _=>j1F) fun _=>j1F) fun _=>j1F) fun _=>j1F)) fun _=>j1F)) fun _=>j1F)) fun _=>j1F
   obtain ⟨_,e6,z,rfl,_⟩:=zG9 r hr;refine qk_i e6 (j1B fun hz=>⟨ht,.inr (.inl ⟨by simpa using hk,hy▸e,g1 h1,g2 h2,by simpa using h3,zCX h4,by simpa using h5,?_⟩)⟩)
   have hz:z=0:=by simpa using hz
   exact zMU hr (hz▸e6)
  ·exact Wp.if (fun ht=>Wp.if (fun h1=>Wp.if (fun h2=>Wp.if (fun h3=>Wp.if (fun h4=>Wp.if (fun h5=>Wp.if (fun h6=>qk_b f4 (j1B fun h7=>⟨ht,.inr (.inr ⟨by simpa using hk,zCX h1,by simpa using h2,by simpa using h3,by simpa using h4,zCX h5,len0 h6,g4 h7⟩)⟩)) fun _=>j1F) fun _=>j1F) fun _=>j1F) fun _=>j1F) fun _=>j1F) fun _=>j1F) fun _=>j1F
 rw [zIw];obtain ⟨_,e,y,rfl,_⟩:=zB3 n;refine qk_b e (Wp.if (fun hy=>qk_i (zI3 x1 x2 x3 x4) (Wp.if (fun hz=>?_) fun _=>j0.mono fun v h z=>by cases (h z).1)) fun _=>j0.mono fun v h z=>by cases (h z).1)
 refine j0.mono fun v h z=>⟨hy▸e,?_,(h z).2⟩
 by_cases ho:okA x1 x2 x3 x4
 ·exact ho
 ·rw [if_neg ho] at hz;cases hz
variable {v:List Nat} {y:Int}
abbrev okR (k:Int) (n u:List Nat) (b c d:Int) (i_:List Nat) (x1 x2 x3 x4:Int) (r:List AV) (ba:Int) (v:List Nat):Option (AV×Heap×Vecs):=some (.bool true,[(0,.cells false [.int .i64 k,.str n,.str u,.int .i64 b,.int .i64 c,.int .i64 d,.str i_,.int .i64 x1,.int .i64 x2,.int .i64 x3,.int .i64 x4,.lst 6 r,.int .i64 ba,.str v])],[])
theorem zUW (h:zq v=some (.bool true)):zBk k n u b c d i_ x1 x2 x3 x4 r ba v=okR k n v b c d i_ x1 x2 x3 x4 r ba v:=by
 rw [zFI,h];rfl
theorem zWe (h:zq v=some (.bool true)):zCf k n u b c d i_ x1 x2 x3 x4 r ba v=okR k n u b c d v x1 x2 x3 x4 r ba v:=by
 rw [zGe,h];rfl
theorem zUX (h:zCP v=some (.int .i64 y)) (h0:0<=y):zBl k n u b c d i_ x1 x2 x3 x4 r ba v=okR k n u y c d i_ x1 x2 x3 x4 r ba v:=by
 rw [zFJ,h,ek_i,decide_eq_true h0]
theorem zUY {l:List AV} (h:zBo v=some (.tup [.agg [.lst 6 l],.agg [.int .i64 (Int.ofNat 0),.int .i64 (Int.ofNat 0)]])):zBp k n u b c d i_ x1 x2 x3 x4 r ba v=okR k n u b c d i_ x1 x2 x3 x4 l ba v:=by
 rw [zFM,h];rfl
theorem zTh (h:zC v=some (.tup [.int .i64 y,.bool true])):zAX k n u b c d i_ x1 x2 x3 x4 r ba v=okR k n u b y d i_ x1 x2 x3 x4 r ba v:=by
 rw [zFb,zFa,h];rfl
theorem zUZ (h:zC v=some (.tup [.int .i64 y,.bool true])):zBm k n u b c d i_ x1 x2 x3 x4 r ba v=okR k n u b c y i_ x1 x2 x3 x4 r ba v:=by
 rw [zFK,zD0,h];rfl
theorem zTi (h:zC v=some (.tup [.int .i64 y,.bool true])):zA0 k n u b c d i_ x1 x2 x3 x4 r ba v=okR k n u b c d i_ x1 x2 x3 x4 r y v:=by
 rw [zFd,zD1,h];rfl
theorem zVR (h:zC v=some (.tup [.int .i64 y,.bool true])):zBM k n u b c d i_ x1 x2 x3 x4 r ba v=okR k n u b c d i_ y x2 x3 x4 r ba v:=by
 rw [zF8,zER,h];rfl
theorem zVS (h:zC v=some (.tup [.int .i64 y,.bool true])):zBN k n u b c d i_ x1 x2 x3 x4 r ba v=okR k n u b c d i_ x1 y x3 x4 r ba v:=by
 rw [zF9,zDD,h];rfl
theorem zU0 (h:zC v=some (.tup [.int .i64 y,.bool true])):zBn k n u b c d i_ x1 x2 x3 x4 r ba v=okR k n u b c d i_ x1 x2 y x4 r ba v:=by
 rw [zFL,zDE,h];rfl
theorem zTj (h:zC v=some (.tup [.int .i64 y,.bool true])):zAY k n u b c d i_ x1 x2 x3 x4 r ba v=okR k n u b c d i_ x1 x2 x3 y r ba v:=by
 rw [zFc,zDF,h];rfl
end
theorem zSc:zc 1 [117,115,101,114]=some (.bool true):=by
 simp only [zn,zk,zj,zi];rfl
theorem zSd:zc 1 [98,97,110,100]=some (.bool true):=by
 simp only [zn,zk,zj,zi];rfl
theorem zQU:zc 1 [99,111,117,110,116]=some (.bool true):=by
 simp only [zn,zk,zj,zi];rfl
theorem zSe:zc 1 [100,111,119,110]=some (.bool true):=by
 simp only [zn,zk,zj,zi];rfl
theorem zU1:zc 1 [105,110]=some (.bool true):=by
 simp only [zn,zk,zj,zi];rfl
theorem zTk:zc 1 [99,112,117]=some (.bool true):=by
 simp only [zn,zk,zj,zi];rfl
theorem zTl:zc 1 [114,97,109]=some (.bool true):=by
 simp only [zn,zk,zj,zi];rfl
theorem zSf:zc 1 [100,105,115,107]=some (.bool true):=by
 simp only [zn,zk,zj,zi];rfl
theorem zQV:zc 1 [112,111,114,116,115]=some (.bool true):=by
 simp only [zn,zk,zj,zi];rfl
theorem zSg:zc 1 [114,117,108,101]=some (.bool true):=by
 simp only [zn,zk,zj,zi];rfl
theorem zSh:zc 2 [117,115,101,114]=some (.bool true):=by
 simp only [zn,zk,zj,zi];rfl
theorem zSi:zc 2 [98,97,110,100]=some (.bool true):=by
 simp only [zn,zk,zj,zi];rfl
theorem zQW:zc 2 [99,111,117,110,116]=some (.bool true):=by
 simp only [zn,zk,zj,zi];rfl
theorem zTm:zc 2 [99,112,117]=some (.bool true):=by
 simp only [zn,zk,zj,zi];rfl
theorem zTn:zc 2 [114,97,109]=some (.bool true):=by
 simp only [zn,zk,zj,zi];rfl
theorem zSj:zc 2 [100,105,115,107]=some (.bool true):=by
 simp only [zn,zk,zj,zi];rfl
theorem zQX:zc 2 [112,111,114,116,115]=some (.bool true):=by
 simp only [zn,zk,zj,zi];rfl
theorem zSk:zc 2 [114,117,108,101]=some (.bool true):=by
 simp only [zn,zk,zj,zi];rfl
theorem zTo:zc 3 [99,112,117]=some (.bool true):=by
 simp only [zn,zk,zj,zi];rfl
theorem zTp:zc 3 [114,97,109]=some (.bool true):=by
 simp only [zn,zk,zj,zi];rfl
theorem zSl:zc 3 [100,105,115,107]=some (.bool true):=by
 simp only [zn,zk,zj,zi];rfl
theorem zQY:zc 3 [112,111,114,116,115]=some (.bool true):=by
 simp only [zn,zk,zj,zi];rfl
theorem zQZ:zc 3 [98,97,116,99,104]=some (.bool true):=by
 simp only [zn,zk,zj,zi];rfl
theorem zTq (s:List Nat) (l:List (List Nat)) (hl:l.length<=1000) (j:Nat) (hj:j<l.length) (hs:l[j]=s) (hne:∀i (h:i<l.length),i<j->l[i]≠s):z4 (l.map .str) s=some (.int .i64 (Int.ofNat j)):=by
 have loop:∀(f i:Nat),i<=j->l.length-i<f->Wp (zT f (l.map .str) s (Int.ofNat l.length) (Int.ofNat i)) fun v=>v=.int .i64 (Int.ofNat j):=by
  intro f
  induction f with
  | zero=>intro i _ h;omega
  | succ f ih=>
   intro i hi hf;rw [zBR];refine Wp.lt (fun hlt=>qk_s (zHi hlt) (Wp.if (fun he=>?_) fun he=>?_)) fun h=>by omega
   ·rcases Nat.lt_or_ge i j with h | h
    ·exact absurd (zCX he) (fun e=>hne i hlt h (by first | exact e | exact e.symm))
    ·obtain rfl:i=j:=by omega
     exact Wp.mk rfl
   ·rcases Nat.lt_or_ge i j with h | h
    ·rw [zo (by omega)]
     exact ih (i+1) h (by omega)
    ·obtain rfl:i=j:=by omega
     rw [hs,zD4] at he;cases he
 refine zCn ?_
 rw [zCq,List.length_map];exact loop FUEL 0 (Nat.zero_le _) (z0 (by omega))
def zEJ:List (List Nat):=[[102,114,101,101],[98,97,116,99,104],[112,114,111,100],[109,111,110,105,116,111,114,105,110,103]]
theorem zL5 {b:Nat} (h:b<4):∃s,zEi (Int.ofNat b)=some (.str s)/\zEJ[b]? = some s/\zCP s=some (.int .i64 (Int.ofNat b)):=by
 have hl:b<zEJ.length:=h;refine ⟨zEJ[b],zCn ?_,List.getElem?_eq_getElem hl,zCn ?_⟩
 ·rw [zMY];refine Wp.ite (fun h=>by rw [Int.ofNat_eq_natCast] at h;omega) fun _=>zMO zDZ (Wp.ite (fun h'=>by
   have h':Int.ofNat b>=(4:Int):=h';rw [Int.ofNat_eq_natCast] at h';omega) fun _=>zMO zDZ ?_)
  exact qk_s (o:=ixN (zEJ.map AV.str) (Int.ofNat b)) (zHi hl) (Wp.mk rfl)
 ·rw [zJh];refine zMO zDZ (qk_i (o:=z4 (zEJ.map AV.str) zEJ[b]) (zTq zEJ[b] zEJ (by decide) b hl rfl fun i hi hib=>?_) (Wp.mk rfl))
  have:∀b,b<4->∀i,i<b->zEJ[i]?≠zEJ[b]?:=by decide
  intro e;exact this b h i hib (by rw [List.getElem?_eq_getElem hi,List.getElem?_eq_getElem hl,e])
end Go.Proofs.YtdeeimaahdgeaaaGreatDoor.spec
namespace Go.Proofs.YtdeeimaahdgeaaaGreatDoor.spec
open Go Go.Sy
variable [MX]
abbrev o1 (c:Bool) (key v:List Nat):List (List Nat):=if c=true then [key++(61::v)] else []
def OKL (m:Nat) (L:List (List Nat)):Prop:=L.length<=m/\∀w∈L,w.length<=1100
theorem OKL.put {m:Nat} {L:List (List Nat)} (h:OKL m L) (c:Bool) {key v:List Nat} (hk:key.length+v.length<=1099):OKL (m+1) (L++o1 c key v):=by
 cases c with
 | false=>simp only [o1];exact ⟨by have:=h.1;simp;omega,by simpa using h.2⟩
 | true=>
  simp only [o1];refine ⟨by have:=h.1;simp;omega,fun w hw=>?_⟩
  rcases List.mem_append.1 hw with hw | hw
  ·exact h.2 w hw
  ·have hw:w=key++(61::v):=by simpa using hw
   subst hw;rw [List.length_append,List.length_cons];omega
theorem put {β:Type} {P:β->Prop} {f:List AV->Option β} {key v:List Nat} {c:Bool} {L:List (List Nat)} {m:Nat} (h:OKL m L) (hm:m<=1000) (hk:key.length+v.length<=1099) (q:OKL (m+1) (L++o1 c key v)->Wp (f ((L++o1 c key v).map .str)) P):
  Wp (dD true [D.v (K.tup 0),D.hc 0 false 1,D.v (K.c (AV.sym 0)),D.vec 0 1] (zAm key v c (L.map .str)) f) P:=by
 have q:=q (h.put c hk);refine zPB (x3:=(L++o1 c key v).map .str) ?_ q
 refine zCn ?_
 rw [zMc];cases c with
 | false=>
  refine Wp.if (fun h=>by cases h) fun _=>Wp.mk ?_
  simp [o1]
 | true=>
  have hl:=h.1;have e:∀x:AV,(chunks 1 1 [x]).length=1:=fun x=>rfl
  have e61:([61]:List Nat).length=1:=rfl;refine Wp.if (fun _=>Wp.gd (by rw [e61];show key.length+1<=9223372036854775807;omega) (Wp.gd (by rw [List.length_append,e61];show key.length+1+v.length<=9223372036854775807;omega) (Wp.gd (zLf (k:=16) (by rw [e,List.length_map];omega) (by omega)) (Wp.mk ?_)))) fun h=>by cases h
  have ec:∀x:List Nat,chunks 1 1 (List.drop 0 (splice [.str []] 0 (AV.cells (.str x))))=[.str x]:=fun x=>rfl
  rw [ec,List.map_append];simp [o1]
theorem zPh:∀W:List (List Nat),strs (W.map .str)=some W
 | []=>rfl
 | w::r=>by
  have ih:=zPh r;show (match strs (r.map .str) with
   | some x=>some (w::x)
   | none=>none)=_
  rw [ih]
theorem zKV {B:Nat}:∀{W:List (List Nat)},(∀w∈W,w.length<=B)->(z5 [32] W).length<=W.length*(B+1)
 | [],_=>Nat.zero_le _
 | [w],h=>by
  have:=h w (.head _);show (w++[]).length<=_
  simp;omega
 | w::x::r,h=>by
  have ih:=zKV (B:=B) (W:=x::r) fun y hy=>h y (.tail _ hy)
  have h1:=h w (.head _);have ej:z5 [32] (w::x::r)=w++(32::z5 [32] (x::r)):=by simp [zHa]
  rw [ej,List.length_append,List.length_cons];have em:(w::x::r).length*(B+1)=(x::r).length*(B+1)+(B+1):=by rw [List.length_cons,Nat.succ_mul]
  rw [em];omega
theorem zPi:∀W:List (List Nat),flatten 1 (W.map .str)=some (W.map .str)
 | []=>rfl
 | w::r=>by
  have ih:=zPi r;show (match flatten 1 (r.map .str) with
   | some cs=>some ([AV.str w]++cs)
   | none=>none)=_
  rw [ih];rfl
theorem zVT {W:List (List Nat)} (h:OKL 100 W):zJg (W.map .str) [32]=some (.str (z5 [32] W)):=by
 have hj:=zKV h.2;have h1:=h.1;have hm:W.length*(1100+1)<=100*(1100+1):=Nat.mul_le_mul_right _ h1;show zJp [.lst 1 (W.map .str),.str [32]] []=_
 have hc:content [] 1 (.lst 1 (W.map .str))=some (W.length,W.map .str):=by
  show (match flatten 1 (W.map .str) with
   | some cs=>some ((W.map AV.str).length,cs)
   | none=>none)=_
  rw [List.length_map,zPi]
 unfold zJp;simp only [show isSl (.lst 1 (W.map .str))=true from rfl,hc,zPh]
 have e:(Nat.ble W.length 140737488355328&&Nat.ble (z5 [32] W).length 140737488355328)=true:=by
  rw [Bool.and_eq_true];exact ⟨Nat.ble_eq_true_of_le (by omega),Nat.ble_eq_true_of_le (by omega)⟩
 rw [e]
theorem zWf:FUEL=1180591620717411303419+1+1+1+1+1:=zIX
section
variable {k:Int} {n u i_ bs t:List Nat} {b c d x1 x2 x3 x4 ba:Nat} {r:List AV} {L:List (List Nat)}
abbrev zJa (W:List (List Nat)) (v:AV):Prop:=v=.tup [.str (z5 [32] W),.int .i64 (Int.ofNat 0)]/\OKL 13 W
theorem zQe (h:OKL 12 L) (hba:ba<100):Wp (zEM k n u (Int.ofNat b) (c:Int) (d:Int) i_ (x1:Int) (x2:Int) (x3:Int) (x4:Int) r (ba:Int) (L.map .str)) (zJa (L++o1 (decide ((ba:Int) > 1)) [98,97,116,99,104] (dec ba))):=by
 rw [zLl];have hl:=zEI ba (by omega)
 exact qk_s (zL3 ba hba) (put h (by omega) (by show 5+_<=_;omega) fun h=>qk_s (zVT ⟨by have:=h.1;omega,h.2⟩) (Wp.mk ⟨rfl,h⟩))
def zLk (rc:Bool) (r:List AV) (t:List Nat):Prop:=(rc=false/\(r=[]\/zBq r=some (.bool true)))\/(rc=true/\0<r.length/\zBq r=some (.bool false)/\zI9 r t)
theorem zSm {rc:Bool} (h:OKL 11 L) (hba:ba<100) (hr:zLk rc r t):Wp (br (decide (Int.ofNat (List.length r) > 0)) (dK true [K.b] (zBq r) fun b'=>zA9 (!b') k n u (Int.ofNat b) (c:Int) (d:Int) i_ (x1:Int) (x2:Int) (x3:Int) (x4:Int) r (ba:Int) (L.map .str)) (zA9 false k n u (Int.ofNat b) (c:Int) (d:Int) i_ (x1:Int) (x2:Int) (x3:Int) (x4:Int) r (ba:Int) (L.map .str))) (zJa (L++o1 rc [114,117,108,101] (34::(t++[34]))++o1 (decide ((ba:Int) > 1)) [98,97,116,99,104] (dec ba))):=by
 have no:rc=false->Wp (zA9 false k n u (Int.ofNat b) (c:Int) (d:Int) i_ (x1:Int) (x2:Int) (x3:Int) (x4:Int) r (ba:Int) (L.map .str)) (zJa (L++o1 rc [114,117,108,101] (34::(t++[34]))++o1 (decide ((ba:Int) > 1)) [98,97,116,99,104] (dec ba))):=fun e=>by
  subst e;rw [zGR];refine Wp.if (fun h=>by cases h) fun _=>?_
  have:=zQe (k:=k) (n:=n) (u:=u) (b:=b) (c:=c) (d:=d) (i_:=i_) (x1:=x1) (x2:=x2) (x3:=x3) (x4:=x4) (r:=r) (ba:=ba) (L:=L) ⟨by have:=h.1;omega,h.2⟩ hba
  have e:L++o1 false [114,117,108,101] (34::(t++[34]))=L:=by simp [o1]
  rw [e];exact this
 rcases hr with ⟨e,rfl | ha⟩ | ⟨e,h0,ha,hR⟩
 ·exact Wp.ite (fun h=>by cases h) fun _=>no e
 ·exact Wp.ite (fun _=>qk_b ha (no e)) fun _=>no e
 ·subst e;refine Wp.ite (fun _=>qk_b ha ?_) fun h=>absurd (by rw [Int.ofNat_eq_natCast];omega) h
  obtain ⟨_,_,hl,ht,_⟩:=hR;show Wp (zA9 true k n u (Int.ofNat b) (c:Int) (d:Int) i_ (x1:Int) (x2:Int) (x3:Int) (x4:Int) r (ba:Int) (L.map .str)) _
  rw [zGR];have e34:([34]:List Nat).length=1:=rfl;refine Wp.if (fun _=>zP4 ht (Wp.gd (by rw [e34];show 1+t.length<=9223372036854775807;omega) (Wp.gd (by rw [List.length_append,e34];show 1+t.length+1<=9223372036854775807;omega) ?_))) fun h=>by cases h
  exact put (key:=[114,117,108,101]) (v:=34::(t++[34])) h (by omega) (by show 4+(34::(t++[34])).length<=_;rw [List.length_cons,List.length_append];show 4+(t.length+1+1)<=_;omega) fun h=>zQe h hba
theorem zU2 {rc:Bool} (h:OKL 7 L) (hba:ba<100) (h1:x1<=1099511627776) (h2:x2<=1099511627776) (h3:x3<=1099511627776) (h4:x4<=1099511627776) (hr:zLk rc r t):Wp (zDY FUEL (Int.ofNat 4) (Int.ofNat 0) k n u (Int.ofNat b) (c:Int) (d:Int) i_ (x1:Int) (x2:Int) (x3:Int) (x4:Int) r (ba:Int) [.agg [.str [99,112,117],.int .i64 (x1:Int)],.agg [.str [114,97,109],.int .i64 (x2:Int)],.agg [.str [100,105,115,107],.int .i64 (x3:Int)],.agg [.str [112,111,114,116,115],.int .i64 (x4:Int)]] (L.map .str)) (zJa (L++o1 ((x1:Int) != 0) [99,112,117] (dec x1)++o1 ((x2:Int) != 0) [114,97,109] (dec x2)++o1 ((x3:Int) != 0) [100,105,115,107] (dec x3)++o1 ((x4:Int) != 0) [112,111,114,116,115] (dec x4)++o1 rc [114,117,108,101] (34::(t++[34]))++o1 (decide ((ba:Int) > 1)) [98,97,116,99,104] (dec ba))):=by
 rw [zWf];rw [zBs];refine Wp.ite (fun _=>?_) fun h=>absurd (by decide:((0:Int))<4) h
 refine Wp.gd ⟨(by decide:(0:Int)<=0),(by decide:((0:Int))<4)⟩ (zAB (x2:=[99,112,117]) (x3:=(x1:Int)) rfl (qk_s (zLi x1 (by omega)) (put h (by omega) (by have:=zEI x1 (by omega);show 3+_<=_;omega) fun h=>?_)))
 rw [show wrapx .i64 (Int.ofNat 0+1)=Int.ofNat 1 from rfl]
 rw [zBs];refine Wp.ite (fun _=>?_) fun h=>absurd (by decide:((1:Int))<4) h
 refine Wp.gd ⟨(by decide:(0:Int)<=1),(by decide:((1:Int))<4)⟩ (zAB (x2:=[114,97,109]) (x3:=(x2:Int)) rfl (qk_s (zLi x2 (by omega)) (put h (by omega) (by have:=zEI x2 (by omega);show 3+_<=_;omega) fun h=>?_)))
 rw [show wrapx .i64 (Int.ofNat 1+1)=Int.ofNat 2 from rfl]
 rw [zBs];refine Wp.ite (fun _=>?_) fun h=>absurd (by decide:((2:Int))<4) h
 refine Wp.gd ⟨(by decide:(0:Int)<=2),(by decide:((2:Int))<4)⟩ (zAB (x2:=[100,105,115,107]) (x3:=(x3:Int)) rfl (qk_s (zLi x3 (by omega)) (put h (by omega) (by have:=zEI x3 (by omega);show 4+_<=_;omega) fun h=>?_)))
 rw [show wrapx .i64 (Int.ofNat 2+1)=Int.ofNat 3 from rfl]
 rw [zBs];refine Wp.ite (fun _=>?_) fun h=>absurd (by decide:((3:Int))<4) h
 refine Wp.gd ⟨(by decide:(0:Int)<=3),(by decide:((3:Int))<4)⟩ (zAB (x2:=[112,111,114,116,115]) (x3:=(x4:Int)) rfl (qk_s (zLi x4 (by omega)) (put h (by omega) (by have:=zEI x4 (by omega);show 5+_<=_;omega) fun h=>?_)))
 rw [show wrapx .i64 (Int.ofNat 3+1)=Int.ofNat 4 from rfl]
 rw [zBs];refine Wp.ite (fun h=>absurd h (by decide:¬((4:Int))<4)) fun _=>?_
 exact zSm h hba hr
theorem zU3 {rc:Bool} (h:OKL 2 L) (hu:u.length<=16) (hi:i_.length<=16) (hb:zEi (Int.ofNat b)=some (.str bs)) (hbs:bs.length<=16) (hc:c<100) (hd:d<100) (hba:ba<100) (h1:x1<=1099511627776) (h2:x2<=1099511627776) (h3:x3<=1099511627776) (h4:x4<=1099511627776) (hr:zLk rc r t):Wp (zBa k n u (Int.ofNat b) (c:Int) (d:Int) i_ (x1:Int) (x2:Int) (x3:Int) (x4:Int) r (ba:Int) (L.map .str)) (zJa (L++o1 (!seqb u []) [117,115,101,114] u++o1 (Int.ofNat b != 0) [98,97,110,100] bs++o1 (decide ((c:Int) > 1)) [99,111,117,110,116] (dec c)++o1 (decide ((d:Int) > 1)) [100,111,119,110] (dec d)++o1 (!seqb i_ []) [105,110] i_++o1 ((x1:Int) != 0) [99,112,117] (dec x1)++o1 ((x2:Int) != 0) [114,97,109] (dec x2)++o1 ((x3:Int) != 0) [100,105,115,107] (dec x3)++o1 ((x4:Int) != 0) [112,111,114,116,115] (dec x4)++o1 rc [114,117,108,101] (34::(t++[34]))++o1 (decide ((ba:Int) > 1)) [98,97,116,99,104] (dec ba))):=by
 rw [zLm];have l1:=zEI c (by omega)
 have l2:=zEI d (by omega)
 exact put h (by omega) (by show 4+_<=_;omega) fun h=>qk_s hb (put h (by omega) (by show 4+_<=_;omega) fun h=>qk_s (zL3 c hc) (put h (by omega) (by show 5+_<=_;omega) fun h=>qk_s (zL3 d hd) (put h (by omega) (by show 4+_<=_;omega) fun h=>put h (by omega) (by show 2+_<=_;omega) fun h=>zU2 h hba h1 h2 h3 h4 hr)))
end
end Go.Proofs.YtdeeimaahdgeaaaGreatDoor.spec
namespace Go.Proofs.YtdeeimaahdgeaaaGreatDoor.spec
open Go Go.Sy
variable [MX]
abbrev Ow (u:List Nat):List (List Nat):=o1 (!seqb u []) [117,115,101,114] u
abbrev Ob (b:Nat) (bs:List Nat):List (List Nat):=o1 (Int.ofNat b != 0) [98,97,110,100] bs
abbrev Oc (c:Nat):List (List Nat):=o1 (decide ((c:Int) > 1)) [99,111,117,110,116] (dec c)
abbrev Od (d:Nat):List (List Nat):=o1 (decide ((d:Int) > 1)) [100,111,119,110] (dec d)
abbrev Oi (i_:List Nat):List (List Nat):=o1 (!seqb i_ []) [105,110] i_
abbrev O6 (x:Nat):List (List Nat):=o1 ((x:Int) != 0) [99,112,117] (dec x)
abbrev O7 (x:Nat):List (List Nat):=o1 ((x:Int) != 0) [114,97,109] (dec x)
abbrev O8 (x:Nat):List (List Nat):=o1 ((x:Int) != 0) [100,105,115,107] (dec x)
abbrev O9 (x:Nat):List (List Nat):=o1 ((x:Int) != 0) [112,111,114,116,115] (dec x)
abbrev Or' (rc:Bool) (t:List Nat):List (List Nat):=o1 rc [114,117,108,101] (34::(t++[34]))
abbrev Oba (ba:Nat):List (List Nat):=o1 (decide ((ba:Int) > 1)) [98,97,116,99,104] (dec ba)
theorem wl {key w:List Nat} (h:key.length<=10) (hw:w.length<=2000):(key++(61::w)).length<=65536:=by
 rw [List.length_append,List.length_cons];omega
theorem zHG (n:Nat):∀c∈dec n,c≠34:=fun c hc=>by
 have:=((zL2 n).1 c hc).1;omega
theorem zTF {s:List Nat} (h:zq s=some (.bool true)):∀c∈s,c≠34:=fun c hc e=>by
 have:=(zCF h).2.2 c hc;unfold nmC at this;omega
theorem zIk {s:List Nat} (h:(!seqb s [])=false):s=[]:=zCX (by simpa using h)
theorem nz {x:Nat} (h:((x:Int) != 0)=true):1<=x:=by
 have h:¬(x:Int)=0:=by simpa using h
 omega
theorem isz {x:Nat} (h:((x:Int) != 0)=false):Int.ofNat 0=(x:Int):=by
 have h:(x:Int)=0:=by simpa using h
 rw [h];rfl
theorem gt1 {x:Nat} (h:(decide ((x:Int) > 1))=true):1<=x:=by
 have:=of_decide_eq_true h;omega
section
variable {l0:List AV} {us0:List Wd} {k c0 d0 ba0:Int} {n u i_ bs t:List Nat} {b c d x1 x2 x3 x4 ba:Nat} {r r0:List AV} {rc:Bool}
theorem zSn (hW:us0.map Prod.fst=Ow u++(Ob b bs++(Oc c++(Od d++(Oi i_++(O6 x1++(O7 x2++(O8 x3++(O9 x4++(Or' rc t++(Oba ba))))))))))) (hlen:us0.length<=1000)
  (h_user:(!seqb u [])=true->zc k [117,115,101,114]=some (.bool true)) (h_band:(Int.ofNat b != 0)=true->zc k [98,97,110,100]=some (.bool true)) (h_count:(decide ((c:Int) > 1))=true->zc k [99,111,117,110,116]=some (.bool true)) (h_down:(decide ((d:Int) > 1))=true->zc k [100,111,119,110]=some (.bool true)) (h_in:(!seqb i_ [])=true->zc k [105,110]=some (.bool true)) (h_cpu:((x1:Int) != 0)=true->zc k [99,112,117]=some (.bool true)) (h_ram:((x2:Int) != 0)=true->zc k [114,97,109]=some (.bool true)) (h_disk:((x3:Int) != 0)=true->zc k [100,105,115,107]=some (.bool true)) (h_ports:((x4:Int) != 0)=true->zc k [112,111,114,116,115]=some (.bool true)) (h_rule:rc=true->zc k [114,117,108,101]=some (.bool true)) (h_batch:(decide ((ba:Int) > 1))=true->zc k [98,97,116,99,104]=some (.bool true))
  (hu:(!seqb u [])=true->zq u=some (.bool true)) (hi:(!seqb i_ [])=true->zq i_=some (.bool true)) (hb:zCP bs=some (.int .i64 (Int.ofNat b))) (hbs:∀c∈bs,c≠34) (hbl:bs.length<=16)
  (hc:c<=100) (hd:d<=100) (hba:ba<=100) (h1:x1<=1099511627776) (h2:x2<=1099511627776) (h3:x3<=1099511627776) (h4:x4<=1099511627776)
  (ht:rc=true->t.length<=1024/\zBo t=some (.tup [.agg [.lst 6 r],.agg [.int .i64 (Int.ofNat 0),.int .i64 (Int.ofNat 0)]]))
  (hc0:(decide ((c:Int) > 1))=false->c0=(c:Int)) (hd0:(decide ((d:Int) > 1))=false->d0=(d:Int)) (hr0:rc=false->r0=r) (hba0:(decide ((ba:Int) > 1))=false->ba0=(ba:Int))
  (hck:zAv k n u (Int.ofNat b) (c:Int) (d:Int) i_ (x1:Int) (x2:Int) (x3:Int) (x4:Int) r (ba:Int)=some (.int .i64 0)):
  Wp (LN l0 us0 k n [] (Int.ofNat 0) c0 d0 [] (Int.ofNat 0) (Int.ofNat 0) (Int.ofNat 0) (Int.ofNat 0) r0 ba0 FUEL 0 [] []) fun v=>v=.tup [.agg [.int .i64 k,.str n,.str u,.int .i64 (Int.ofNat b),.int .i64 (c:Int),.int .i64 (d:Int),.str i_,.int .i64 (x1:Int),.int .i64 (x2:Int),.int .i64 (x3:Int),.int .i64 (x4:Int),.lst 6 r,.int .i64 (ba:Int)],.agg [.int .i64 0,.int .i64 0]]:=by
 have hl:=congrArg List.length hW;rw [List.length_map] at hl;have dl:=fun (n:Nat) (h:n<=1099511627776)=>zEI n (by omega)
 have D1:=dl c (by omega)
 have D2:=dl d (by omega)
 have D3:=dl ba (by omega)
 have D4:=dl x1 h1;have D5:=dl x2 h2;have D6:=dl x3 h3;have D7:=dl x4 h4;refine opt (F:=fun z=>LN l0 us0 k n z (Int.ofNat 0) c0 d0 [] (Int.ofNat 0) (Int.ofNat 0) (Int.ofNat 0) (Int.ofNat 0) r0 ba0) (y1:=u) (key:=[117,115,101,114]) (A:=[]) (B:=Ob b bs++(Oc c++(Od d++(Oi i_++(O6 x1++(O7 x2++(O8 x3++(O9 x4++(Or' rc t++(Oba ba)))))))))) (w:=u) (v:=u) (cond:=(!seqb u [])) (L:=[]) (by rw [hW];simp only [List.append_assoc,List.nil_append,List.append_nil]) hlen (fun h=>(zIk h).symm) (fun hh f i ns v0 p a1 a2 a3 a4 q=>zTc a1 a2 a3 (zAF (by decide) (wl (by decide) (by have:=(zCF (hu hh)).2.1;omega)) (zTF (hu hh))) a4 (h_user hh) (zUW (hu hh)) q) (by decide) ?_ FUEL 0 [] [] rfl (z0 (by omega)) fun s hs=>hs
 refine opt (F:=fun z=>LN l0 us0 k n u z c0 d0 [] (Int.ofNat 0) (Int.ofNat 0) (Int.ofNat 0) (Int.ofNat 0) r0 ba0) (y1:=(Int.ofNat b)) (key:=[98,97,110,100]) (A:=[]++Ow u) (B:=Oc c++(Od d++(Oi i_++(O6 x1++(O7 x2++(O8 x3++(O9 x4++(Or' rc t++(Oba ba))))))))) (w:=bs) (v:=bs) (cond:=(Int.ofNat b != 0)) (L:=[[117,115,101,114]]) (by rw [hW];simp only [List.append_assoc,List.nil_append,List.append_nil]) hlen (isz) (fun hh f i ns v0 p a1 a2 a3 a4 q=>zTd a1 a2 a3 (zAF (by decide) (wl (by decide) (by omega)) hbs) a4 (h_band hh) (zUX hb (Int.natCast_nonneg _)) q) (by decide) ?_
 refine opt (F:=fun z=>LN l0 us0 k n u (Int.ofNat b) z d0 [] (Int.ofNat 0) (Int.ofNat 0) (Int.ofNat 0) (Int.ofNat 0) r0 ba0) (y1:=(c:Int)) (key:=[99,111,117,110,116]) (A:=([]++Ow u)++Ob b bs) (B:=Od d++(Oi i_++(O6 x1++(O7 x2++(O8 x3++(O9 x4++(Or' rc t++(Oba ba)))))))) (w:=(dec c)) (v:=(dec c)) (cond:=(decide ((c:Int) > 1))) (L:=[[98,97,110,100],[117,115,101,114]]) (by rw [hW];simp only [List.append_assoc,List.nil_append,List.append_nil]) hlen (hc0) (fun hh f i ns v0 p a1 a2 a3 a4 q=>zR9 a1 a2 a3 (zAF (by decide) (wl (by decide) (by omega)) (zHG _)) a4 (h_count hh) (zTh (zDm c (gt1 hh) (by omega))) q) (by decide) ?_
 refine opt (F:=fun z=>LN l0 us0 k n u (Int.ofNat b) (c:Int) z [] (Int.ofNat 0) (Int.ofNat 0) (Int.ofNat 0) (Int.ofNat 0) r0 ba0) (y1:=(d:Int)) (key:=[100,111,119,110]) (A:=(([]++Ow u)++Ob b bs)++Oc c) (B:=Oi i_++(O6 x1++(O7 x2++(O8 x3++(O9 x4++(Or' rc t++(Oba ba))))))) (w:=(dec d)) (v:=(dec d)) (cond:=(decide ((d:Int) > 1))) (L:=[[99,111,117,110,116],[98,97,110,100],[117,115,101,114]]) (by rw [hW];simp only [List.append_assoc,List.nil_append,List.append_nil]) hlen (hd0) (fun hh f i ns v0 p a1 a2 a3 a4 q=>zTe a1 a2 a3 (zAF (by decide) (wl (by decide) (by omega)) (zHG _)) a4 (h_down hh) (zUZ (zDm d (gt1 hh) (by omega))) q) (by decide) ?_
 refine opt (F:=fun z=>LN l0 us0 k n u (Int.ofNat b) (c:Int) (d:Int) z (Int.ofNat 0) (Int.ofNat 0) (Int.ofNat 0) (Int.ofNat 0) r0 ba0) (y1:=i_) (key:=[105,110]) (A:=((([]++Ow u)++Ob b bs)++Oc c)++Od d) (B:=O6 x1++(O7 x2++(O8 x3++(O9 x4++(Or' rc t++(Oba ba)))))) (w:=i_) (v:=i_) (cond:=(!seqb i_ [])) (L:=[[100,111,119,110],[99,111,117,110,116],[98,97,110,100],[117,115,101,114]]) (by rw [hW];simp only [List.append_assoc,List.nil_append,List.append_nil]) hlen (fun h=>(zIk h).symm) (fun hh f i ns v0 p a1 a2 a3 a4 q=>zVQ a1 a2 a3 (zAF (by decide) (wl (by decide) (by have:=(zCF (hi hh)).2.1;omega)) (zTF (hi hh))) a4 (h_in hh) (zWe (hi hh)) q) (by decide) ?_
 refine opt (F:=fun z=>LN l0 us0 k n u (Int.ofNat b) (c:Int) (d:Int) i_ z (Int.ofNat 0) (Int.ofNat 0) (Int.ofNat 0) r0 ba0) (y1:=(x1:Int)) (key:=[99,112,117]) (A:=(((([]++Ow u)++Ob b bs)++Oc c)++Od d)++Oi i_) (B:=O7 x2++(O8 x3++(O9 x4++(Or' rc t++(Oba ba))))) (w:=(dec x1)) (v:=(dec x1)) (cond:=((x1:Int) != 0)) (L:=[[105,110],[100,111,119,110],[99,111,117,110,116],[98,97,110,100],[117,115,101,114]]) (by rw [hW];simp only [List.append_assoc,List.nil_append,List.append_nil]) hlen (isz) (fun hh f i ns v0 p a1 a2 a3 a4 q=>zUU a1 a2 a3 (zAF (by decide) (wl (by decide) (by omega)) (zHG _)) a4 (h_cpu hh) (zVR (zDm x1 (nz hh) (by omega))) q) (by decide) ?_
 refine opt (F:=fun z=>LN l0 us0 k n u (Int.ofNat b) (c:Int) (d:Int) i_ (x1:Int) z (Int.ofNat 0) (Int.ofNat 0) r0 ba0) (y1:=(x2:Int)) (key:=[114,97,109]) (A:=((((([]++Ow u)++Ob b bs)++Oc c)++Od d)++Oi i_)++O6 x1) (B:=O8 x3++(O9 x4++(Or' rc t++(Oba ba)))) (w:=(dec x2)) (v:=(dec x2)) (cond:=((x2:Int) != 0)) (L:=[[99,112,117],[105,110],[100,111,119,110],[99,111,117,110,116],[98,97,110,100],[117,115,101,114]]) (by rw [hW];simp only [List.append_assoc,List.nil_append,List.append_nil]) hlen (isz) (fun hh f i ns v0 p a1 a2 a3 a4 q=>zUV a1 a2 a3 (zAF (by decide) (wl (by decide) (by omega)) (zHG _)) a4 (h_ram hh) (zVS (zDm x2 (nz hh) (by omega))) q) (by decide) ?_
 refine opt (F:=fun z=>LN l0 us0 k n u (Int.ofNat b) (c:Int) (d:Int) i_ (x1:Int) (x2:Int) z (Int.ofNat 0) r0 ba0) (y1:=(x3:Int)) (key:=[100,105,115,107]) (A:=(((((([]++Ow u)++Ob b bs)++Oc c)++Od d)++Oi i_)++O6 x1)++O7 x2) (B:=O9 x4++(Or' rc t++(Oba ba))) (w:=(dec x3)) (v:=(dec x3)) (cond:=((x3:Int) != 0)) (L:=[[114,97,109],[99,112,117],[105,110],[100,111,119,110],[99,111,117,110,116],[98,97,110,100],[117,115,101,114]]) (by rw [hW];simp only [List.append_assoc,List.nil_append,List.append_nil]) hlen (isz) (fun hh f i ns v0 p a1 a2 a3 a4 q=>zTf a1 a2 a3 (zAF (by decide) (wl (by decide) (by omega)) (zHG _)) a4 (h_disk hh) (zU0 (zDm x3 (nz hh) (by omega))) q) (by decide) ?_
 refine opt (F:=fun z=>LN l0 us0 k n u (Int.ofNat b) (c:Int) (d:Int) i_ (x1:Int) (x2:Int) (x3:Int) z r0 ba0) (y1:=(x4:Int)) (key:=[112,111,114,116,115]) (A:=((((((([]++Ow u)++Ob b bs)++Oc c)++Od d)++Oi i_)++O6 x1)++O7 x2)++O8 x3) (B:=Or' rc t++(Oba ba)) (w:=(dec x4)) (v:=(dec x4)) (cond:=((x4:Int) != 0)) (L:=[[100,105,115,107],[114,97,109],[99,112,117],[105,110],[100,111,119,110],[99,111,117,110,116],[98,97,110,100],[117,115,101,114]]) (by rw [hW];simp only [List.append_assoc,List.nil_append,List.append_nil]) hlen (isz) (fun hh f i ns v0 p a1 a2 a3 a4 q=>zSa a1 a2 a3 (zAF (by decide) (wl (by decide) (by omega)) (zHG _)) a4 (h_ports hh) (zTj (zDm x4 (nz hh) (by omega))) q) (by decide) ?_
 refine opt (F:=fun z=>LN l0 us0 k n u (Int.ofNat b) (c:Int) (d:Int) i_ (x1:Int) (x2:Int) (x3:Int) (x4:Int) z ba0) (y1:=r) (key:=[114,117,108,101]) (A:=(((((((([]++Ow u)++Ob b bs)++Oc c)++Od d)++Oi i_)++O6 x1)++O7 x2)++O8 x3)++O9 x4) (B:=Oba ba) (w:=(34::(t++[34]))) (v:=t) (cond:=rc) (L:=[[112,111,114,116,115],[100,105,115,107],[114,97,109],[99,112,117],[105,110],[100,111,119,110],[99,111,117,110,116],[98,97,110,100],[117,115,101,114]]) (by rw [hW];simp only [List.append_assoc,List.nil_append,List.append_nil]) hlen (hr0) (fun hh f i ns v0 p a1 a2 a3 a4 q=>zTg a1 a2 a3 (zQT (by decide) (wl (w:=34::(t++[34])) (by decide) (by have:=(ht hh).1;rw [List.length_cons,List.length_append];show t.length+1+1<=_;omega))) a4 (h_rule hh) (zUY (ht hh).2) q) (by decide) ?_
 refine opt (F:=fun z=>LN l0 us0 k n u (Int.ofNat b) (c:Int) (d:Int) i_ (x1:Int) (x2:Int) (x3:Int) (x4:Int) r z) (y1:=(ba:Int)) (key:=[98,97,116,99,104]) (A:=((((((((([]++Ow u)++Ob b bs)++Oc c)++Od d)++Oi i_)++O6 x1)++O7 x2)++O8 x3)++O9 x4)++Or' rc t) (B:=[]) (w:=(dec ba)) (v:=(dec ba)) (cond:=(decide ((ba:Int) > 1))) (L:=[[114,117,108,101],[112,111,114,116,115],[100,105,115,107],[114,97,109],[99,112,117],[105,110],[100,111,119,110],[99,111,117,110,116],[98,97,110,100],[117,115,101,114]]) (by rw [hW];simp only [List.append_assoc,List.nil_append,List.append_nil]) hlen (hba0) (fun hh f i ns v0 p a1 a2 a3 a4 q=>zSb a1 a2 a3 (zAF (by decide) (wl (by decide) (by omega)) (zHG _)) a4 (h_batch hh) (zTi (zDm ba (gt1 hh) (by omega))) q) (by decide) ?_
 intro f i ns v0 hi hf hns;have hW2:us0.map Prod.fst=(((((((((([]++Ow u)++Ob b bs)++Oc c)++Od d)++Oi i_)++O6 x1)++O7 x2)++O8 x3)++O9 x4)++Or' rc t)++Oba ba:=by rw [hW];simp only [List.append_assoc,List.nil_append]
 have hl2:=congrArg List.length hW2;rw [List.length_map] at hl2;have hi:i=us0.length:=hi.trans hl2.symm;cases f with
 | zero=>omega
 | succ f=>
  unfold LN;rw [zt];refine Wp.ite (fun h=>by rw [Int.ofNat_eq_natCast,Int.ofNat_eq_natCast] at h;omega) fun _=>?_
  exact qk_i hck (Wp.if (fun h=>by cases h) fun _=>Wp.mk rfl)
end
end Go.Proofs.YtdeeimaahdgeaaaGreatDoor.spec
namespace Go.Proofs.YtdeeimaahdgeaaaGreatDoor.spec
open Go Go.Sy
variable [MX]
theorem zEe {c:Bool} {key v w:List Nat} (h:w∈o1 c key v):c=true/\w=key++(61::v):=by
 cases c with
 | false=>simp [o1] at h
 | true=>exact ⟨rfl,by simpa [o1] using h⟩
theorem zCO {key v:List Nat} (hk:∀c∈key,okW c) (hv:∀c∈v,okW c):zIi (key++(61::v)):=.inl ⟨by simp,fun c hc=>by
 rcases List.mem_append.1 hc with hc | hc
 ·exact hk c hc
 ·rcases List.mem_cons.1 hc with rfl | hc
  ·exact ⟨by decide,by decide,by decide,by decide⟩
  ·exact hv c hc⟩
theorem zU4 {key v:List Nat} (h0:key≠[]) (hk:∀c∈key,okW c) (h61:61 ∉ key) (hv:okS v):zIi (key++(61::(34::(v++[34])))):=.inr ⟨key,v,by simp,⟨h0,hk⟩,h61,hv⟩
theorem zA4 {l:List Nat} (h:l.all (fun c=>decide (33<=c/\c<=126/\c≠34/\c≠35))=true):∀c∈l,okW c:=fun c hc=>by
 have h:decide (33<=c/\c<=126/\c≠34/\c≠35)=true:=List.all_eq_true.1 h c hc;show 33<=c/\c<=126/\c≠34/\c≠35
 exact of_decide_eq_true h
theorem zL6 {s:List Nat} (h:zq s=some (.bool true)):∀c∈s,okW c:=fun c hc=>by
 have:=(zCF h).2.2 c hc;unfold nmC at this;unfold okW;omega
theorem zGl (n:Nat):∀c∈dec n,okW c:=fun c hc=>by
 have:=(zL2 n).1 c hc;unfold okW;omega
theorem zJM {b:Nat} {s:List Nat} (h:zEJ[b]? = some s):(∀c∈s,okW c)/\s.length<=16:=by
 have hm:=List.mem_of_getElem? h;have:∀s∈zEJ,s.all (fun c=>decide (33<=c/\c<=126/\c≠34/\c≠35))=true/\s.length<=16:=by decide
 exact ⟨zA4 (this s hm).1,(this s hm).2⟩
structure Sp (k c0 d0 ba0:Int) (n u i_ bs t kw:List Nat) (b c d x1 x2 x3 x4 ba:Nat) (r r0:List AV) (rc:Bool):Prop where
 nm:zq n=some (.bool true)
 ck:zAv k n u (Int.ofNat b) (c:Int) (d:Int) i_ (x1:Int) (x2:Int) (x3:Int) (x4:Int) r (ba:Int)=some (.int .i64 0)
 h_user:(!seqb u [])=true->zc k [117,115,101,114]=some (.bool true)
 h_band:(Int.ofNat b != 0)=true->zc k [98,97,110,100]=some (.bool true)
 h_count:(decide ((c:Int) > 1))=true->zc k [99,111,117,110,116]=some (.bool true)
 h_down:(decide ((d:Int) > 1))=true->zc k [100,111,119,110]=some (.bool true)
 h_in:(!seqb i_ [])=true->zc k [105,110]=some (.bool true)
 h_cpu:((x1:Int) != 0)=true->zc k [99,112,117]=some (.bool true)
 h_ram:((x2:Int) != 0)=true->zc k [114,97,109]=some (.bool true)
 h_disk:((x3:Int) != 0)=true->zc k [100,105,115,107]=some (.bool true)
 h_ports:((x4:Int) != 0)=true->zc k [112,111,114,116,115]=some (.bool true)
 h_rule:rc=true->zc k [114,117,108,101]=some (.bool true)
 h_batch:(decide ((ba:Int) > 1))=true->zc k [98,97,116,99,104]=some (.bool true)
 hu:(!seqb u [])=true->zq u=some (.bool true)
 hi:(!seqb i_ [])=true->zq i_=some (.bool true)
 hb1:zEi (Int.ofNat b)=some (.str bs)
 hb2:zEJ[b]? = some bs
 hb:zCP bs=some (.int .i64 (Int.ofNat b))
 hc:c<100
 hd:d<100
 hba:ba<100
 h1:x1<=1099511627776
 h2:x2<=1099511627776
 h3:x3<=1099511627776
 h4:x4<=1099511627776
 rt:zLk rc r t
 hc0:(decide ((c:Int) > 1))=false->c0=(c:Int)
 hd0:(decide ((d:Int) > 1))=false->d0=(d:Int)
 hr0:rc=false->r0=r
 hba0:(decide ((ba:Int) > 1))=false->ba0=(ba:Int)
 kw0:kw≠[]
 kwW:∀c∈kw,okW c
 kwl:kw.length<=16
 tx:∀P,Wp (zBa k n u (Int.ofNat b) (c:Int) (d:Int) i_ (x1:Int) (x2:Int) (x3:Int) (x4:Int) r (ba:Int) ([kw,n].map .str)) P->Wp (zDP k n u (Int.ofNat b) (c:Int) (d:Int) i_ (x1:Int) (x2:Int) (x3:Int) (x4:Int) r (ba:Int)) P
 li:∀l0 (p:Int),ixN l0 0=some (.agg [.str kw,.int .i64 p])->zAw l0=zA8 l0 k [] [] (Int.ofNat 0) c0 d0 [] (Int.ofNat 0) (Int.ofNat 0) (Int.ofNat 0) (Int.ofNat 0) r0 ba0 [] (Int.ofNat 0) [] [] (Int.ofNat 0) (Int.ofNat 0) (Int.ofNat 0) [] (Int.ofNat 0) (Int.ofNat 0) (Int.ofNat 0) (Int.ofNat 0) (Int.ofNat 0) (Int.ofNat 0) (Int.ofNat 0)
section
variable {k c0 d0 ba0:Int} {n u i_ bs t kw:List Nat} {b c d x1 x2 x3 x4 ba:Nat} {r r0:List AV} {rc:Bool}
theorem Sp.rule (S:Sp k c0 d0 ba0 n u i_ bs t kw b c d x1 x2 x3 x4 ba r r0 rc) (h:rc=true):zI9 r t:=by
 rcases S.rt with ⟨e,_⟩ | ⟨_,_,_,hR⟩
 ·rw [h] at e;cases e
 ·exact hR
theorem Sp.ul (S:Sp k c0 d0 ba0 n u i_ bs t kw b c d x1 x2 x3 x4 ba r r0 rc):u.length<=16:=by
 by_cases h:(!seqb u [])=true
 ·exact (zCF (S.hu h)).2.1
 ·rw [zIk (s:=u) (by simpa using h)];exact Nat.zero_le _
theorem Sp.il (S:Sp k c0 d0 ba0 n u i_ bs t kw b c d x1 x2 x3 x4 ba r r0 rc):i_.length<=16:=by
 by_cases h:(!seqb i_ [])=true
 ·exact (zCF (S.hi h)).2.1
 ·rw [zIk (s:=i_) (by simpa using h)];exact Nat.zero_le _
theorem Sp.good (S:Sp k c0 d0 ba0 n u i_ bs t kw b c d x1 x2 x3 x4 ba r r0 rc):∀w∈[kw,n]++(Ow u++(Ob b bs++(Oc c++(Od d++(Oi i_++(O6 x1++(O7 x2++(O8 x3++(O9 x4++(Or' rc t++(Oba ba))))))))))),zIi w:=by
 intro w hw;simp only [List.mem_append] at hw;rcases hw with hw | hw | hw | hw | hw | hw | hw | hw | hw | hw | hw | hw
 ·rcases List.mem_cons.1 hw with rfl | hw
  ·exact .inl ⟨S.kw0,S.kwW⟩
  ·rw [List.mem_singleton.1 hw];exact .inl ⟨(zCF S.nm).1,zL6 S.nm⟩
 ·have hw:=zEe hw;rw [hw.2];exact zCO (zA4 rfl) (zL6 (S.hu hw.1))
 ·have hw:=zEe hw;rw [hw.2];exact zCO (zA4 rfl) ((zJM S.hb2).1)
 ·have hw:=zEe hw;rw [hw.2];exact zCO (zA4 rfl) (zGl _)
 ·have hw:=zEe hw;rw [hw.2];exact zCO (zA4 rfl) (zGl _)
 ·have hw:=zEe hw;rw [hw.2];exact zCO (zA4 rfl) (zL6 (S.hi hw.1))
 ·have hw:=zEe hw;rw [hw.2];exact zCO (zA4 rfl) (zGl _)
 ·have hw:=zEe hw;rw [hw.2];exact zCO (zA4 rfl) (zGl _)
 ·have hw:=zEe hw;rw [hw.2];exact zCO (zA4 rfl) (zGl _)
 ·have hw:=zEe hw;rw [hw.2];exact zCO (zA4 rfl) (zGl _)
 ·have hw:=zEe hw;rw [hw.2];exact zU4 (by decide) (zA4 rfl) (by decide) (S.rule hw.1).2.1
 ·have hw:=zEe hw;rw [hw.2];exact zCO (zA4 rfl) (zGl _)
theorem Sp.text (S:Sp k c0 d0 ba0 n u i_ bs t kw b c d x1 x2 x3 x4 ba r r0 rc):Wp (zDP k n u (Int.ofNat b) (c:Int) (d:Int) i_ (x1:Int) (x2:Int) (x3:Int) (x4:Int) r (ba:Int)) (zJa ([kw,n]++(Ow u++(Ob b bs++(Oc c++(Od d++(Oi i_++(O6 x1++(O7 x2++(O8 x3++(O9 x4++(Or' rc t++(Oba ba))))))))))))):=by
 have e:[kw,n]++(Ow u++(Ob b bs++(Oc c++(Od d++(Oi i_++(O6 x1++(O7 x2++(O8 x3++(O9 x4++(Or' rc t++(Oba ba)))))))))))=(((((((((([kw,n]++Ow u)++Ob b bs)++Oc c)++Od d)++Oi i_)++O6 x1)++O7 x2)++O8 x3)++O9 x4)++Or' rc t)++Oba ba:=by simp only [List.append_assoc]
 rw [e];exact S.tx _ (zU3 (L:=[kw,n]) ⟨Nat.le_refl _,fun w hw=>by
  rcases List.mem_cons.1 hw with rfl | hw
  ·have:=S.kwl;omega
  ·rw [List.mem_singleton.1 hw];have:=(zCF S.nm).2.1;omega⟩ S.ul S.il S.hb1 (zJM S.hb2).2 S.hc S.hd S.hba S.h1 S.h2 S.h3 S.h4 S.rt)
theorem Sp.line (S:Sp k c0 d0 ba0 n u i_ bs t kw b c d x1 x2 x3 x4 ba r r0 rc) {us:List Wd} (hus:us.map Prod.fst=[kw,n]++(Ow u++(Ob b bs++(Oc c++(Od d++(Oi i_++(O6 x1++(O7 x2++(O8 x3++(O9 x4++(Or' rc t++(Oba ba)))))))))))) (hl:us.length<=1000):zAw (wds 0 us)=some (.tup [.agg [.int .i64 k,.str n,.str u,.int .i64 (Int.ofNat b),.int .i64 (c:Int),.int .i64 (d:Int),.str i_,.int .i64 (x1:Int),.int .i64 (x2:Int),.int .i64 (x3:Int),.int .i64 (x4:Int),.lst 6 r,.int .i64 (ba:Int)],.agg [.int .i64 0,.int .i64 0]]):=by
 have hlen:us.length=2+(Ow u++(Ob b bs++(Oc c++(Od d++(Oi i_++(O6 x1++(O7 x2++(O8 x3++(O9 x4++(Or' rc t++(Oba ba))))))))))).length:=by
  have:=congrArg List.length hus;rw [List.length_map,List.length_append] at this;exact this
 obtain ⟨p0,hp0,_⟩:=zPf (A:=[]) (w:=kw) hus;obtain ⟨p1,hp1,_⟩:=zPf (A:=[kw]) (w:=n) hus;refine zCn ?_
 rw [S.li _ p0 hp0,zE5];refine Wp.ite (fun _=>?_) fun h=>absurd (by rw [zA3,hlen,Int.ofNat_eq_natCast];omega) h
 refine zAB hp1 (qk_b S.nm (Wp.if (fun h=>by cases h) fun _=>zAB hp1 ?_))
 rw [zE4,zA3];have hmin:(if Int.ofNat us.length<2 then Int.ofNat us.length else 2)=Int.ofNat 2:=if_neg (by rw [Int.ofNat_eq_natCast];omega)
 rw [hmin];have hd:List.drop (Int.toNat (Int.ofNat 2)) (List.take (Int.toNat (Int.ofNat us.length)) (wds 0 us))=wds 0 (us.drop 2):=by
  show List.drop 2 (List.take us.length (wds 0 us))=_
  rw [List.take_of_length_le (by rw [zA3];exact Nat.le_refl _)]
  unfold wds;rw [List.map_drop]
 rw [hd,zA3];refine Wp.gd ⟨Int.natCast_nonneg _,Int.ofNat_le.2 (by omega)⟩ ?_
 have hd2:(us.drop 2).map Prod.fst=Ow u++(Ob b bs++(Oc c++(Od d++(Oi i_++(O6 x1++(O7 x2++(O8 x3++(O9 x4++(Or' rc t++(Oba ba)))))))))):=by
  rw [List.map_drop,hus];rfl
 have hbq:=zJM S.hb2;exact zSn hd2 (by rw [List.length_drop];omega) S.h_user S.h_band S.h_count S.h_down S.h_in S.h_cpu S.h_ram S.h_disk S.h_ports S.h_rule S.h_batch S.hu S.hi S.hb (fun c hc=>(hbq.1 c hc).2.2.1) hbq.2 (Nat.le_of_lt S.hc) (Nat.le_of_lt S.hd) (Nat.le_of_lt S.hba) S.h1 S.h2 S.h3 S.h4 (fun h=>⟨(S.rule h).2.2.1,(S.rule h).2.2.2.2⟩) S.hc0 S.hd0 S.hr0 S.hba0 S.ck
theorem Sp.back (S:Sp k c0 d0 ba0 n u i_ bs t kw b c d x1 x2 x3 x4 ba r r0 rc):∃x,zDP k n u (Int.ofNat b) (c:Int) (d:Int) i_ (x1:Int) (x2:Int) (x3:Int) (x4:Int) r (ba:Int)=some (.tup [.str x,.int .i64 (Int.ofNat 0)])/\x.length<=65536/\(∀c∈x,okT c)/\ln x=.spec (.agg [.int .i64 k,.str n,.str u,.int .i64 (Int.ofNat b),.int .i64 (c:Int),.int .i64 (d:Int),.str i_,.int .i64 (x1:Int),.int .i64 (x2:Int),.int .i64 (x3:Int),.int .i64 (x4:Int),.lst 6 r,.int .i64 (ba:Int)]):=by
 obtain ⟨_,e,rfl,hO⟩:=S.text;have hj:=zKV hO.2;have hm:=Nat.mul_le_mul_right (1100+1) hO.1;have hl:(z5 [32] ([kw,n]++(Ow u++(Ob b bs++(Oc c++(Od d++(Oi i_++(O6 x1++(O7 x2++(O8 x3++(O9 x4++(Or' rc t++(Oba ba))))))))))))).length<=65536:=by omega
 refine ⟨_,e,hl,zQc S.good,?_⟩
 obtain ⟨us,h1,h2⟩:=zR7 (by simp) S.good hl
 have hul:us.length<=1000:=by
  have:=congrArg List.length h1;rw [List.length_map] at this;rw [this];have:=hO.1;omega
 have h3:=S.line h1 hul;unfold ln;rw [h2];cases us with
 | nil=>cases h1
 | cons w ws=>
  show (match zAw (wds 0 (w::ws)) with
   | some (.tup [a,.agg [.int _ e,.int _ p]])=>if e=0 then Ln.spec a else Ln.bad p
   | _=>Ln.none)=_
  rw [h3];rfl
end
end Go.Proofs.YtdeeimaahdgeaaaGreatDoor.spec
namespace Go.Proofs.YtdeeimaahdgeaaaGreatDoor.spec
open Go Go.Sy
variable [MX]
theorem nof {l:List Nat} (h:(!seqb l [])=true) (e:l=[]):False:=by subst e;cases h
theorem dgt {x:Nat} {y:Int} (h:(decide ((x:Int) > 1))=false) (h1:y<=1) (h2:y<=(x:Int)) (h3:(x:Int)<=1->(x:Int)<=y):y=(x:Int):=by
 have:=of_decide_eq_false h;omega
section
variable {k:Int} {n:List Nat} {u:List Nat} {b:Int} {c:Int} {d:Int} {i_:List Nat} {x1:Int} {x2:Int} {x3:Int} {x4:Int} {r:List AV} {ba:Int}
theorem back (hr:Nds r) (hck:zAv k n u b c d i_ x1 x2 x3 x4 r ba=some (.int .i64 0)):∃x,zDP k n u b c d i_ x1 x2 x3 x4 r ba=some (.tup [.str x,.int .i64 (Int.ofNat 0)])/\x.length<=65536/\(∀c∈x,okT c)/\ln x=.spec (.agg [.int .i64 k,.str n,.str u,.int .i64 b,.int .i64 c,.int .i64 d,.str i_,.int .i64 x1,.int .i64 x2,.int .i64 x3,.int .i64 x4,.lst 6 r,.int .i64 ba]):=by
 obtain ⟨nm,⟨⟨a1,b1⟩,⟨a2,b2⟩,⟨a3,b3⟩,⟨a4,b4⟩⟩,h⟩:=zPG hr hck;obtain ⟨x1,rfl⟩:=Int.eq_ofNat_of_zero_le a1;obtain ⟨x2,rfl⟩:=Int.eq_ofNat_of_zero_le a2;obtain ⟨x3,rfl⟩:=Int.eq_ofNat_of_zero_le a3;obtain ⟨x4,rfl⟩:=Int.eq_ofNat_of_zero_le a4;rcases h with ⟨rfl,hu,⟨q1,q2⟩,⟨q3,q4⟩,⟨q5,q6⟩,rfl,⟨t,hR⟩,hi⟩ | ⟨rfl,hu,⟨q1,q2⟩,⟨q3,q4⟩,rfl,rfl,rfl,t,hR⟩ | ⟨rfl,rfl,rfl,rfl,rfl,rfl,rfl,q1,q2⟩
 ·obtain ⟨b,rfl⟩:=Int.eq_ofNat_of_zero_le q1;obtain ⟨c,rfl⟩:=Int.eq_ofNat_of_zero_le (show 0<=c by omega)
  obtain ⟨d,rfl⟩:=Int.eq_ofNat_of_zero_le (show 0<=d by omega)
  obtain ⟨bs,hb1,hb2,hb⟩:=zL5 (b:=b) (by omega)
  obtain ⟨y,ey,hy⟩:=zL4 hr;have rt:zLk (!y) r t:=by
   cases y with
   | true=>exact .inl ⟨rfl,.inr ey⟩
   | false=>exact .inr ⟨rfl,hR.1,ey,hR⟩
  have hr0:(!y)=false->anyR=r:=fun h=>(hy (by simpa using h)).symm
  have S:Sp 1 1 1 0 n u i_ bs t [106,111,98] b c d x1 x2 x3 x4 0 r anyR (!y):={
   nm:=nm
   ck:=hck
   h_user:=fun _=>zSc
   h_band:=fun _=>zSd
   h_count:=fun _=>zQU
   h_down:=fun _=>zSe
   h_in:=fun _=>zU1
   h_cpu:=fun _=>zTk
   h_ram:=fun _=>zTl
   h_disk:=fun _=>zSf
   h_ports:=fun _=>zQV
   h_rule:=fun _=>zSg
   h_batch:=fun h=>by cases h
   hu:=fun _=>hu
   hi:=fun h=>hi.elim (fun e=>(nof h e).elim) id
   hc:=by omega
   hd:=by omega
   hba:=by decide
   rt:=rt
   hc0:=fun h=>dgt h (by omega) (by omega) (by omega)
   hd0:=fun h=>dgt h (by omega) (by omega) (by omega)
   hr0:=hr0
   hba0:=fun _=>rfl
   hb1:=hb1
   hb2:=hb2
   hb:=hb
   h1:=by omega
   h2:=by omega
   h3:=by omega
   h4:=by omega
   kw0:=by decide
   kwW:=zA4 rfl
   kwl:=by decide
   tx:=fun P q=>by
    rw [zGn];exact qk_i hck (Wp.if (fun h=>by cases h) fun _=>Wp.ite (fun h=>absurd h (by decide:¬((1:Int)=3))) fun _=>Wp.ite (fun h=>absurd h (by decide:¬((1:Int)=2))) fun _=>Wp.ite (fun _=>q) fun h=>absurd rfl h)
   li:=fun l0 p h=>by
    rw [zC9,h,zNa,zAP];rfl }
  exact S.back
 ·obtain ⟨b,rfl⟩:=Int.eq_ofNat_of_zero_le q1;obtain ⟨c,rfl⟩:=Int.eq_ofNat_of_zero_le (show 0<=c by omega)
  obtain ⟨bs,hb1,hb2,hb⟩:=zL5 (b:=b) (by omega)
  obtain ⟨y,ey,hy⟩:=zL4 hr;have rt:zLk (!y) r t:=by
   cases y with
   | true=>exact .inl ⟨rfl,.inr ey⟩
   | false=>exact .inr ⟨rfl,hR.1,ey,hR⟩
  have hr0:(!y)=false->anyR=r:=fun h=>(hy (by simpa using h)).symm
  have S:Sp 2 1 0 0 n u [] bs t [97,108,108,111,99] b c 0 x1 x2 x3 x4 0 r anyR (!y):={
   nm:=nm
   ck:=hck
   h_user:=fun _=>zSh
   h_band:=fun _=>zSi
   h_count:=fun _=>zQW
   h_down:=fun h=>by cases h
   h_in:=fun h=>by cases h
   h_cpu:=fun _=>zTm
   h_ram:=fun _=>zTn
   h_disk:=fun _=>zSj
   h_ports:=fun _=>zQX
   h_rule:=fun _=>zSk
   h_batch:=fun h=>by cases h
   hu:=fun _=>hu
   hi:=fun h=>by cases h
   hc:=by omega
   hd:=by decide
   hba:=by decide
   rt:=rt
   hc0:=fun h=>dgt h (by omega) (by omega) (by omega)
   hd0:=fun _=>rfl
   hr0:=hr0
   hba0:=fun _=>rfl
   hb1:=hb1
   hb2:=hb2
   hb:=hb
   h1:=by omega
   h2:=by omega
   h3:=by omega
   h4:=by omega
   kw0:=by decide
   kwW:=zA4 rfl
   kwl:=by decide
   tx:=fun P q=>by
    rw [zGn];exact qk_i hck (Wp.if (fun h=>by cases h) fun _=>Wp.ite (fun h=>absurd h (by decide:¬((2:Int)=3))) fun _=>Wp.ite (fun _=>q) fun h=>absurd rfl h)
   li:=fun l0 p h=>by
    rw [zC9,h,zNa,zAP];rfl }
  exact S.back
 ·obtain ⟨ba,rfl⟩:=Int.eq_ofNat_of_zero_le (show 0<=ba by omega)
  obtain ⟨bs,hb1,hb2,hb⟩:=zL5 (b:=0) (by omega)
  have S:Sp 3 0 0 1 n [] [] bs [] [117,112,100,97,116,101] 0 0 0 x1 x2 x3 x4 ba [] [] false:={
   nm:=nm
   ck:=hck
   h_user:=fun h=>by cases h
   h_band:=fun h=>by cases h
   h_count:=fun h=>by cases h
   h_down:=fun h=>by cases h
   h_in:=fun h=>by cases h
   h_cpu:=fun _=>zTo
   h_ram:=fun _=>zTp
   h_disk:=fun _=>zSl
   h_ports:=fun _=>zQY
   h_rule:=fun h=>by cases h
   h_batch:=fun _=>zQZ
   hu:=fun h=>by cases h
   hi:=fun h=>by cases h
   hc:=by decide
   hd:=by decide
   hba:=by omega
   rt:=.inl ⟨rfl,.inl rfl⟩
   hc0:=fun _=>rfl
   hd0:=fun _=>rfl
   hr0:=fun _=>rfl
   hba0:=fun h=>dgt h (by omega) (by omega) (by omega)
   hb1:=hb1
   hb2:=hb2
   hb:=hb
   h1:=by omega
   h2:=by omega
   h3:=by omega
   h4:=by omega
   kw0:=by decide
   kwW:=zA4 rfl
   kwl:=by decide
   tx:=fun P q=>by
    rw [zGn];exact qk_i hck (Wp.if (fun h=>by cases h) fun _=>Wp.ite (fun _=>q) fun h=>absurd rfl h)
   li:=fun l0 p h=>by
    rw [zC9,h,zNa];rfl }
  exact S.back
end
theorem zNS:∀{x:List Nat},10 ∉ x->zw 10 x=[x]
 | [],_=>rfl
 | c::x,h=>by
  have ih:=zNS (x:=x) fun hm=>h (.tail _ hm)
  rw [zw];have:Nat.beq c 10=false:=by
   cases e:Nat.beq c 10 with
   | false=>rfl
   | true=>exact absurd (.head _) (Nat.eq_of_beq_eq_true e▸h)
  rw [this,ih]
theorem zSo {x:List Nat} {a:AV} (h:ln x=.spec a):parse ln 0 [x]=.ok [a]:=by
 rw [zDl,h];rfl
theorem zKW:∀{ps:List (List Nat)} {a p:Int},(∀s∈ps,BT s)->parse ln a ps=.error p->a<=p/\p+1<=a+total ps
 | [],a,p,_,h=>by cases h
 | s::r,a,p,hl,h=>by
  have hs:=hl s (.head _);have ih:=fun {a p}=>zKW (ps:=r) (a:=a) (p:=p) fun x hx=>hl x (.tail _ hx)
  have ht:(total (s::r):Int)=s.length+1+total r:=by rw [zJJ];omega
  rw [ht];rw [zDl] at h;split at h
  ·rename_i q hq;cases h;rcases zQQ hs (Int.le_refl 0) (by decide) with ⟨p,h0,h1,h2,_⟩ | ⟨h2,_⟩ | ⟨es,_,_,⟨p,h0,h1,h2,_⟩ | ⟨x,_,h2,_⟩⟩
   ·rw [h2] at hq;cases hq;omega
   ·rw [h2] at hq;cases hq
   ·rw [h2] at hq;cases hq;omega
   ·rw [h2] at hq;cases hq
  ·have:=ih h;omega
  ·split at h
   ·cases h
   ·rename_i e;cases h;have:=ih e;omega
theorem zTr (l:List AV) (hl:zQa l) (hn:l.length<=1000000):∀(f i:Nat),i<=l.length->l.length-i<f->Wp (zU f l (Int.ofNat i)) fun v=>v=.bool true:=by
 intro f
 induction f with
 | zero=>intro i _ h;omega
 | succ f ih=>
  intro i hi hf;rw [zE6];refine Wp.lt (fun hlt=>?_) fun _=>Wp.mk rfl
  obtain ⟨k,n,u,b,c,d,i_,x1,x2,x3,x4,r,ba,he,hr,hck⟩:=hl _ (List.getElem_mem hlt);have hx:=(zAW hlt).trans (congrArg some he);obtain ⟨x,hT,hxl,hxo,hln⟩:=back hr hck;have hP:=zMR x ⟨hxl,fun c hc=>by have:=(hxo c hc).2.1;omega⟩
  rw [zNS fun hm=>absurd (hxo 10 hm).1 (by decide),zSo hln] at hP
  refine zBT hx (zP4 hT (zKP hP (zBT hx (qk_i hck ?_))))
  refine Wp.if (fun h=>by cases h) fun _=>Wp.if (fun h=>by cases h) fun _=>Wp.if (fun h=>by cases h) fun _=>Wp.if (fun h=>by cases h) fun _=>?_
  refine zBT (o:=ixN [_] 0) rfl (zBT hx (qk_b (zTa k n u b c d i_ x1 x2 x3 x4 r ba hr) ?_))
  rw [zFf];refine Wp.if (fun h=>by cases h) fun _=>?_
  rw [zFe,zo (by omega)]
  exact ih (i+1) hlt (by omega)
theorem law (s:List Nat) (h8:∀c∈s,c<256):zBr s=some (.bool true):=by
 refine zCn ?_
 rw [zGb];refine qk_b zRS (Wp.if (fun h=>(by cases h)) fun _=>?_)
 by_cases hs:s.length<=65536
 ·have hP:=zMR s ⟨hs,h8⟩;have ht:=zIK s;have hps:∀x∈zw 10 s,BT x:=fun x hx=>by
   have:=zHF x hx;have hp:=List.length_pos_of_mem hx;exact ⟨by omega,fun c hc=>h8 c (zKS s x hx c hc)⟩
  cases hq:parse ln 0 (zw 10 s) with
  | error p=>
   rw [hq] at hP;have hb:=zKW hps hq;rw [ht] at hb;refine zPb hP ?_
   show Wp (br true (br true (br (decide (p>=-1)) (some (AV.bool (decide (p<=Int.ofNat s.length)))) (some (AV.bool false))) (some (AV.bool false))) _) _
   rw [zAu,zAu,decide_eq_true (by omega:p>=-1),zAu,decide_eq_true (by rw [Int.ofNat_eq_natCast];omega:p<=Int.ofNat s.length)]
   exact Wp.mk rfl
  | ok l=>
   rw [hq] at hP;obtain ⟨h1,h2⟩:=zLG hps hq;have hpl:(zw 10 s).length<=100000:=by
    cases h:zw 10 s with
    | nil=>exact Nat.zero_le _
    | cons p q=>have:=zHF (ps:=p::q) p (.head _);rw [←h] at this ⊢;omega
   refine zKP hP ?_
   show Wp (br false _ (zU FUEL l (Int.ofNat 0))) _
   rw [zEa];exact zTr l h1 (by omega) FUEL 0 (Nat.zero_le _) (z0 (by omega))
 ·have hP:zEh s=some (.tup [.nilslice,.agg [.int .i64 (Int.ofNat 3),.int .i64 (Int.negSucc 0)]]):=by
   rw [zIx,decide_eq_true (by rw [Int.ofNat_eq_natCast];omega:Int.ofNat s.length > 65536),zAu]
  refine zPb hP ?_
  show Wp (br true (br true (br (decide ((-1:Int)>=-1)) (some (AV.bool (decide ((-1:Int)<=Int.ofNat s.length)))) (some (AV.bool false))) (some (AV.bool false))) _) _
  rw [zAu,zAu,decide_eq_true (by decide:(-1:Int)>=-1),zAu,decide_eq_true (by rw [Int.ofNat_eq_natCast];omega:(-1:Int)<=Int.ofNat s.length)]
  exact Wp.mk rfl
end Go.Proofs.YtdeeimaahdgeaaaGreatDoor.spec
namespace Go.Proofs.YtdeeimaahdgeaaaGreatDoor.spec
open Go Go.Sy
variable [MX]
theorem zVU (a:List Nat) (h:∀c∈a,c<256):FnT Tryz.prog G0 5 [.str a] [] 0 (.bool true) [] 0:=by
 have e:=law a h;have hf:zBv Tryz.prog G0 5 (gV t73 1 5):=(t73.ok FUEL).at;refine (hf _ _ (fun z hz=>?_) (by unfold zBr at e;exact e)).2.2 [] 0
 rw [List.mem_singleton.1 hz];exact .str _
end Go.Proofs.YtdeeimaahdgeaaaGreatDoor.spec
