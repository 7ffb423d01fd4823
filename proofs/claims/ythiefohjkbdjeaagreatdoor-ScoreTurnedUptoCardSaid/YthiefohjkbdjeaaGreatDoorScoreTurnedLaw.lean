/- THE LAW OF THE LEAN FUNCTIONS, IN PLAIN LEAN: whatever the arguments, it says true. No condition. -/
import Derived.Test.YthiefohjkbdjeaaGreatDoorScoreTurnedS2
import Derived.Test.YthiefohjkbdjeaaGreatDoorRows
set_option linter.unusedVariables false
set_option linter.unusedSimpArgs false
namespace Go.Proofs.YthiefohjkbdjeaaGreatDoor.scoreTurned
open Go Go.Sy
theorem qk_u {β:Type} {wk:Bool} {P:β->Prop} {f:(Int)->Option β} {o:Option (AV)} {x1:Int} (h:o=some (.int Go.IntKind.u8 x1)) (k:Wp (f x1) P):Wp (dK wk [K.i IntKind.u8] o f) P:=by
 subst h;exact k
theorem zRI {β:Type} {wk:Bool} {f:(Int)->(Int)->(Int)->(Int)->Option β} (x2:Int) (x3:Int) (x4:Int) (x5:Int):dK wk [K.agg 4,K.i IntKind.i64,K.i IntKind.i64,K.i IntKind.i64,K.i IntKind.i64] (some (.agg [.int Go.IntKind.i64 x2,.int Go.IntKind.i64 x3,.int Go.IntKind.i64 x4,.int Go.IntKind.i64 x5])) f=f x2 x3 x4 x5:=rfl
theorem zBK {β:Type} {wk:Bool} {P:β->Prop} {f:(Int)->(Int)->(Int)->(Int)->Option β} {o:Option (AV)} {x2:Int} {x3:Int} {x4:Int} {x5:Int} (h:o=some (.agg [.int Go.IntKind.i64 x2,.int Go.IntKind.i64 x3,.int Go.IntKind.i64 x4,.int Go.IntKind.i64 x5])) (k:Wp (f x2 x3 x4 x5) P):Wp (dK wk [K.agg 4,K.i IntKind.i64,K.i IntKind.i64,K.i IntKind.i64,K.i IntKind.i64] o f) P:=by
 subst h;exact k
theorem ek_i {β:Type} {wk:Bool} {f:(Int)->Option β} (x1:Int):dK wk [K.i IntKind.i64] (some (.int Go.IntKind.i64 x1)) f=f x1:=rfl
theorem wk_i {β:Type} {wk:Bool} {P:β->Prop} {f:(Int)->Option β} {o:Option (AV)} {R:(Int)->Prop} (h:Wp o fun v=>∃(x1:Int),v=(.int Go.IntKind.i64 x1)/\R x1) (k:∀(x1:Int),R x1->Wp (f x1) P):Wp (dK wk [K.i IntKind.i64] o f) P:=by
 obtain ⟨v,rfl,h⟩:=h;obtain ⟨x1,rfl,h⟩:=h;exact k x1 h
theorem qk_i {β:Type} {wk:Bool} {P:β->Prop} {f:(Int)->Option β} {o:Option (AV)} {x1:Int} (h:o=some (.int Go.IntKind.i64 x1)) (k:Wp (f x1) P):Wp (dK wk [K.i IntKind.i64] o f) P:=by
 subst h;exact k
theorem zDH {β:Type} {wk:Bool} {P:β->Prop} {f:(Int)->(List Nat)->(List Nat)->(Int)->(Int)->(Int)->Option β} {o:Option (AV)} {x2:Int} {x3:List Nat} {x4:List Nat} {x5:Int} {x6:Int} {x7:Int} (h:o=some (.agg [.int Go.IntKind.i64 x2,.str x3,.str x4,.int Go.IntKind.i64 x5,.int Go.IntKind.i64 x6,.int Go.IntKind.i64 x7])) (k:Wp (f x2 x3 x4 x5 x6 x7) P):Wp (dK wk [K.agg 6,K.i IntKind.i64,K.s,K.s,K.i IntKind.i64,K.i IntKind.i64,K.i IntKind.i64] o f) P:=by
 subst h;exact k
theorem wk_s {β:Type} {wk:Bool} {P:β->Prop} {f:(List Nat)->Option β} {o:Option (AV)} {R:(List Nat)->Prop} (h:Wp o fun v=>∃(x1:List Nat),v=(.str x1)/\R x1) (k:∀(x1:List Nat),R x1->Wp (f x1) P):Wp (dK wk [K.s] o f) P:=by
 obtain ⟨v,rfl,h⟩:=h;obtain ⟨x1,rfl,h⟩:=h;exact k x1 h
theorem qk_s {β:Type} {wk:Bool} {P:β->Prop} {f:(List Nat)->Option β} {o:Option (AV)} {x1:List Nat} (h:o=some (.str x1)) (k:Wp (f x1) P):Wp (dK wk [K.s] o f) P:=by
 subst h;exact k
theorem wk_b {β:Type} {wk:Bool} {P:β->Prop} {f:(Bool)->Option β} {o:Option (AV)} {R:(Bool)->Prop} (h:Wp o fun v=>∃(x1:Bool),v=(.bool x1)/\R x1) (k:∀(x1:Bool),R x1->Wp (f x1) P):Wp (dK wk [K.b] o f) P:=by
 obtain ⟨v,rfl,h⟩:=h;obtain ⟨x1,rfl,h⟩:=h;exact k x1 h
theorem qk_b {β:Type} {wk:Bool} {P:β->Prop} {f:(Bool)->Option β} {o:Option (AV)} {x1:Bool} (h:o=some (.bool x1)) (k:Wp (f x1) P):Wp (dK wk [K.b] o f) P:=by
 subst h;exact k
theorem zUW {β:Type} {wk:Bool} {P:β->Prop} {f:(Int)->(AV)->Option β} {o:Option (AV)} {x2:Int} {x3:AV} (h:o=some (.tup [.int Go.IntKind.i64 x2,x3])) (k:Wp (f x2 x3) P):Wp (dK wk [K.tup 2,K.i IntKind.i64,K.av] o f) P:=by
 subst h;exact k
theorem zNj {β:Type} {wk:Bool} {f:(List AV)->(Int)->(Int)->Option β} (x3:List AV) (x5:Int) (x6:Int):dK wk [K.tup 2,K.agg 1,K.l 6,K.agg 2,K.i IntKind.i64,K.i IntKind.i64] (some (.tup [.agg [.lst 6 x3],.agg [.int Go.IntKind.i64 x5,.int Go.IntKind.i64 x6]])) f=f x3 x5 x6:=rfl
theorem zUX {β:Type} {wk:Bool} {P:β->Prop} {f:(List Nat)->(List Nat)->Option β} {o:Option (AV)} {x2:List Nat} {x3:List Nat} (h:o=some (.agg [.str x2,.str x3])) (k:Wp (f x2 x3) P):Wp (dK wk [K.agg 2,K.s,K.s] o f) P:=by
 subst h;exact k
theorem zMu {β:Type} {wk:Bool} {P:β->Prop} {f:(List Nat)->(Int)->Option β} {o:Option (AV)} {R:(List Nat)->(Int)->Prop} (h:Wp o fun v=>∃(x2:List Nat) (x3:Int),v=(.tup [.str x2,.int Go.IntKind.i64 x3])/\R x2 x3) (k:∀(x2:List Nat) (x3:Int),R x2 x3->Wp (f x2 x3) P):Wp (dK wk [K.tup 2,K.s,K.i IntKind.i64] o f) P:=by
 obtain ⟨v,rfl,h⟩:=h;obtain ⟨x2,x3,rfl,h⟩:=h;exact k x2 x3 h
theorem zMv {β:Type} {wk:Bool} {P:β->Prop} {f:(List Nat)->(Int)->(Int)->(Int)->(Int)->(Int)->(Int)->(List Nat)->(Bool)->Option β} {o:Option (AV)} {x2:List Nat} {x3:Int} {x4:Int} {x5:Int} {x6:Int} {x7:Int} {x8:Int} {x9:List Nat} {x10:Bool} (h:o=some (.agg [.str x2,.int Go.IntKind.i64 x3,.int Go.IntKind.i64 x4,.int Go.IntKind.i64 x5,.int Go.IntKind.i64 x6,.int Go.IntKind.i64 x7,.int Go.IntKind.i64 x8,.str x9,.bool x10])) (k:Wp (f x2 x3 x4 x5 x6 x7 x8 x9 x10) P):Wp (dK wk [K.agg 9,K.s,K.i IntKind.i64,K.i IntKind.i64,K.i IntKind.i64,K.i IntKind.i64,K.i IntKind.i64,K.i IntKind.i64,K.s,K.b] o f) P:=by
 subst h;exact k
theorem zLJ {β:Type} {wk:Bool} {P:β->Prop} {f:(List AV)->Option β} {o:Option (AV)} {R:(List AV)->Prop} (h:Wp o fun v=>∃(x1:List AV),v=(.lst 9 x1)/\R x1) (k:∀(x1:List AV),R x1->Wp (f x1) P):Wp (dK wk [K.l 9] o f) P:=by
 obtain ⟨v,rfl,h⟩:=h;obtain ⟨x1,rfl,h⟩:=h;exact k x1 h
theorem zF6 {β:Type} {wk:Bool} {P:β->Prop} {f:(Int)->(Int)->(Int)->(Int)->(Int)->Option β} {o:Option (AV)} {R:(Int)->(Int)->(Int)->(Int)->(Int)->Prop} (h:Wp o fun v=>∃(x3:Int) (x4:Int) (x5:Int) (x6:Int) (x7:Int),v=(.tup [.agg [.int Go.IntKind.i64 x3,.int Go.IntKind.i64 x4,.int Go.IntKind.i64 x5,.int Go.IntKind.i64 x6],.int Go.IntKind.i64 x7])/\R x3 x4 x5 x6 x7) (k:∀(x3:Int) (x4:Int) (x5:Int) (x6:Int) (x7:Int),R x3 x4 x5 x6 x7->Wp (f x3 x4 x5 x6 x7) P):Wp (dK wk [K.tup 2,K.agg 4,K.i IntKind.i64,K.i IntKind.i64,K.i IntKind.i64,K.i IntKind.i64,K.i IntKind.i64] o f) P:=by
 obtain ⟨v,rfl,h⟩:=h;obtain ⟨x3,x4,x5,x6,x7,rfl,h⟩:=h;exact k x3 x4 x5 x6 x7 h
theorem zJV {β:Type} {wk:Bool} {P:β->Prop} {f:(List Nat)->(Int)->(Int)->(Int)->(Int)->(Int)->(Int)->(List Nat)->(Bool)->(Bool)->Option β} {o:Option (AV)} {R:(List Nat)->(Int)->(Int)->(Int)->(Int)->(Int)->(Int)->(List Nat)->(Bool)->(Bool)->Prop} (h:Wp o fun v=>∃(x3:List Nat) (x4:Int) (x5:Int) (x6:Int) (x7:Int) (x8:Int) (x9:Int) (x10:List Nat) (x11:Bool) (x12:Bool),v=(.tup [.agg [.str x3,.int Go.IntKind.i64 x4,.int Go.IntKind.i64 x5,.int Go.IntKind.i64 x6,.int Go.IntKind.i64 x7,.int Go.IntKind.i64 x8,.int Go.IntKind.i64 x9,.str x10,.bool x11],.bool x12])/\R x3 x4 x5 x6 x7 x8 x9 x10 x11 x12) (k:∀(x3:List Nat) (x4:Int) (x5:Int) (x6:Int) (x7:Int) (x8:Int) (x9:Int) (x10:List Nat) (x11:Bool) (x12:Bool),R x3 x4 x5 x6 x7 x8 x9 x10 x11 x12->Wp (f x3 x4 x5 x6 x7 x8 x9 x10 x11 x12) P):Wp (dK wk [K.tup 2,K.agg 9,K.s,K.i IntKind.i64,K.i IntKind.i64,K.i IntKind.i64,K.i IntKind.i64,K.i IntKind.i64,K.i IntKind.i64,K.s,K.b,K.b] o f) P:=by
 obtain ⟨v,rfl,h⟩:=h;obtain ⟨x3,x4,x5,x6,x7,x8,x9,x10,x11,x12,rfl,h⟩:=h;exact k x3 x4 x5 x6 x7 x8 x9 x10 x11 x12 h
theorem zEt {β:Type} {wk:Bool} {P:β->Prop} {f:(Int)->(Int)->(Int)->(Int)->(Bool)->Option β} {o:Option (AV)} {R:(Int)->(Int)->(Int)->(Int)->(Bool)->Prop} (h:Wp o fun v=>∃(x3:Int) (x4:Int) (x5:Int) (x6:Int) (x7:Bool),v=(.tup [.agg [.int Go.IntKind.i64 x3,.int Go.IntKind.i64 x4,.int Go.IntKind.i64 x5,.int Go.IntKind.i64 x6],.bool x7])/\R x3 x4 x5 x6 x7) (k:∀(x3:Int) (x4:Int) (x5:Int) (x6:Int) (x7:Bool),R x3 x4 x5 x6 x7->Wp (f x3 x4 x5 x6 x7) P):Wp (dK wk [K.tup 2,K.agg 4,K.i IntKind.i64,K.i IntKind.i64,K.i IntKind.i64,K.i IntKind.i64,K.b] o f) P:=by
 obtain ⟨v,rfl,h⟩:=h;obtain ⟨x3,x4,x5,x6,x7,rfl,h⟩:=h;exact k x3 x4 x5 x6 x7 h
theorem zUY {β:Type} {wk:Bool} {P:β->Prop} {f:(Bool)->(Int)->Option β} {o:Option (AV)} {R:(Bool)->(Int)->Prop} (h:Wp o fun v=>∃(x2:Bool) (x3:Int),v=(.tup [.bool x2,.int Go.IntKind.i64 x3])/\R x2 x3) (k:∀(x2:Bool) (x3:Int),R x2 x3->Wp (f x2 x3) P):Wp (dK wk [K.tup 2,K.b,K.i IntKind.i64] o f) P:=by
 obtain ⟨v,rfl,h⟩:=h;obtain ⟨x2,x3,rfl,h⟩:=h;exact k x2 x3 h
theorem zSD {β:Type} {wk:Bool} {P:β->Prop} {f:(Int)->(List Nat)->(Int)->Option β} {o:Option (AV)} {x2:Int} {x3:List Nat} {x4:Int} (h:o=some (.tup [.int Go.IntKind.i64 x2,.str x3,.int Go.IntKind.i64 x4])) (k:Wp (f x2 x3 x4) P):Wp (dK wk [K.tup 3,K.i IntKind.i64,K.s,K.i IntKind.i64] o f) P:=by
 subst h;exact k
theorem zUZ {β:Type} {wk:Bool} {P:β->Prop} {f:(Int)->(Int)->Option β} {o:Option (AV)} {x2:Int} {x3:Int} (h:o=some (.tup [.int Go.IntKind.i64 x2,.int Go.IntKind.i64 x3])) (k:Wp (f x2 x3) P):Wp (dK wk [K.tup 2,K.i IntKind.i64,K.i IntKind.i64] o f) P:=by
 subst h;exact k
theorem zLK {β:Type} {wk:Bool} {P:β->Prop} {f:(List Nat)->(List AV)->(Int)->(Int)->(Int)->(Int)->(Bool)->(List AV)->Option β} {o:Option (AV)} {x2:List Nat} {x3:List AV} {x4:Int} {x5:Int} {x6:Int} {x7:Int} {x8:Bool} {x9:List AV} (h:o=some (.agg [.str x2,.lst 2 x3,.int Go.IntKind.i64 x4,.int Go.IntKind.i64 x5,.int Go.IntKind.i64 x6,.int Go.IntKind.i64 x7,.bool x8,.lst 9 x9])) (k:Wp (f x2 x3 x4 x5 x6 x7 x8 x9) P):Wp (dK wk [K.agg 8,K.s,K.l 2,K.i IntKind.i64,K.i IntKind.i64,K.i IntKind.i64,K.i IntKind.i64,K.b,K.l 9] o f) P:=by
 subst h;exact k
theorem zKE {β:Type} {wk:Bool} {P:β->Prop} {f:(Int)->(Int)->(List Nat)->Option β} {o:Option (AV)} {x2:Int} {x3:Int} {x4:List Nat} (h:o=some (.agg [.int Go.IntKind.i64 x2,.int Go.IntKind.i64 x3,.str x4])) (k:Wp (f x2 x3 x4) P):Wp (dK wk [K.agg 3,K.i IntKind.i64,K.i IntKind.i64,K.s] o f) P:=by
 subst h;exact k
theorem zOW {β:Type} {wk:Bool} {P:β->Prop} {f:(Int)->(Int)->(Int)->Option β} {o:Option (AV)} {R:(Int)->(Int)->(Int)->Prop} (h:Wp o fun v=>∃(x2:Int) (x3:Int) (x4:Int),v=(.tup [.int Go.IntKind.i64 x2,.int Go.IntKind.i64 x3,.int Go.IntKind.i64 x4])/\R x2 x3 x4) (k:∀(x2:Int) (x3:Int) (x4:Int),R x2 x3 x4->Wp (f x2 x3 x4) P):Wp (dK wk [K.tup 3,K.i IntKind.i64,K.i IntKind.i64,K.i IntKind.i64] o f) P:=by
 obtain ⟨v,rfl,h⟩:=h;obtain ⟨x2,x3,x4,rfl,h⟩:=h;exact k x2 x3 x4 h
theorem zOX {β:Type} {wk:Bool} {P:β->Prop} {f:(List AV)->(Int)->Option β} {o:Option (AV)} {x2:List AV} {x3:Int} (h:o=some (.tup [.lst 1 x2,.int Go.IntKind.i64 x3])) (k:Wp (f x2 x3) P):Wp (dK wk [K.tup 2,K.l 1,K.i IntKind.i64] o f) P:=by
 subst h;exact k
theorem zSE {β:Type} {wk:Bool} {P:β->Prop} {f:(List AV)->Option β} {o:Option (AV×Heap×Vecs)} {x2:List AV} (h:o=some (.tup [],[],[(0,.vec 3 x2)])) (k:Wp (f x2) P):Wp (dD wk [D.v (K.tup 0),D.vec 0 3] o f) P:=by
 subst h;exact k
end Go.Proofs.YthiefohjkbdjeaaGreatDoor.scoreTurned
namespace Go.Proofs.YthiefohjkbdjeaaGreatDoor.scoreTurned
open Go Go.Sy
abbrev nd6 (k:Int) (s t:List Nat) (n l r:Int):AV:=.agg [.int .i64 k,.str s,.str t,.int .i64 n,.int .i64 l,.int .i64 r]
def topL:Nat:=4611686018427387904
def TL (es:List AV) (L:Nat->Nat) (m:Nat):Prop:=∀j,j<m->∃k s t n l r,es[j]? = some (nd6 k s t n l r)/\(-9223372036854775808<=n/\n<=9223372036854775807)/\s.length+t.length+24<=L j/\L j<=topL ∧
 (k=7->∃a:Nat,l=Int.ofNat a/\a<j/\L a+3<=L j)/\(k=8\/k=9->∃a b:Nat,l=Int.ofNat a/\r=Int.ofNat b/\a<j/\b<j/\L a+L b+7<=L j)
def upd {α:Type} (f:Nat->α) (a:Nat) (v:α):Nat->α:=fun j=>if j=a then v else f j
theorem zCA {α:Type} {f:Nat->α} {a:Nat} {v:α}:upd f a v a=v:=if_pos rfl
theorem zAE {α:Type} {f:Nat->α} {a j:Nat} {v:α} (h:j≠a):upd f a v j=f j:=if_neg h
def rs (L:Nat->Nat) (c:Nat->Int):Nat->Nat
 | 0=>0
 | i+1=>rs L c i+if c i=0 then L i else 0
theorem zKF {L L':Nat->Nat} {c c':Nat->Int}:∀{i:Nat},(∀j,j<i->L j=L' j)->(∀j,j<i->(c j=c' j))->rs L c i=rs L' c' i
 | 0,_,_=>rfl
 | i+1,h1,h2=>by
  rw [rs,rs,zKF (fun j h=>h1 j (by omega)) fun j h=>h2 j (by omega),h1 i (by omega),h2 i (by omega)]
theorem zP3 {L:Nat->Nat} {c:Nat->Int} {a:Nat} (h0:c a=0) {v:Int} (hv:v≠0):∀{i:Nat},a<i->rs L (upd c a v) i+L a=rs L c i
 | 0,h=>by omega
 | i+1,h=>by
  rw [rs,rs];by_cases e:a=i
  ·subst e;rw [zCA,if_neg hv,if_pos h0,zKF (L':=L) (c':=c) (fun _ _=>rfl) fun j hj=>zAE (by omega)]
   omega
  ·have:=zP3 (L:=L) (c:=c) h0 hv (show a<i by omega)
   rw [zAE (by omega)]
   omega
def fb:Nat->Nat->Nat->Nat
 | 0,a,b=>a
 | n+1,a,b=>fb n b (a+b+1)
theorem zRJ:∀(n a b:Nat),fb (n+2) a b=fb (n+1) a b+fb n a b+1
 | 0,a,b=>by simp only [fb];omega
 | n+1,a,b=>by
  have:=zRJ n b (a+b+1);rw [fb,fb,fb] at *;exact this
theorem zQB:∀(n a b:Nat),a<b->fb n a b<fb (n+1) a b
 | 0,a,b,h=>by simp only [fb];exact h
 | n+1,a,b,h=>by
  have:=zQB n b (a+b+1) (by omega)
  rw [fb,fb] at *;exact this
def fbL (j:Nat):Nat:=100*fb j 1 2
theorem zG8 {a b:Nat} (h:a<b):∀{n m:Nat},n<=m->fb n a b<=fb m a b:=by
 intro n m hm
 induction m with
 | zero=>
  have:n=0:=by omega
  subst this;exact Nat.le_refl _
 | succ m ih=>
  by_cases e:n=m+1
  ·subst e;exact Nat.le_refl _
  ·exact Nat.le_trans (ih (by omega)) (Nat.le_of_lt (zQB m a b h))
theorem zU0 {a j:Nat} (h:a<j):fbL a+3<=fbL j:=by
 have h1:=zQB a 1 2 (by omega)
 have h2:=zG8 (a:=1) (b:=2) (by omega) (show a+1<=j by omega)
 unfold fbL;omega
theorem zU1 {a b j:Nat} (h:a<b) (h2:b<j):fbL a+fbL b+7<=fbL j:=by
 obtain ⟨i,rfl⟩:∃i,j=i+2:=⟨j-2,by omega⟩
 have h0:=zRJ i 1 2;have h1:=zG8 (a:=1) (b:=2) (by omega) (show a<=i by omega)
 have h2:=zG8 (a:=1) (b:=2) (by omega) (show b<=i+1 by omega)
 unfold fbL;omega
theorem zU2 {j:Nat} (h:j<=64):fbL j<=topL:=by
 have h1:=zG8 (a:=1) (b:=2) (by omega) h
 have h2:fb 64 1 2<=40000000000000000:=by decide
 unfold fbL topL;omega
theorem zV0 (j:Nat):100<=fbL j:=by
 have h1:=zG8 (a:=1) (b:=2) (by omega) (show 0<=j by omega)
 have:fb 0 1 2=1:=rfl;unfold fbL;omega
end Go.Proofs.YthiefohjkbdjeaaGreatDoor.scoreTurned
namespace Go.Proofs.YthiefohjkbdjeaaGreatDoor.scoreTurned
open Go Go.Sy
theorem zSF (n:Int) (h0:0<=n) (h1:n<64):∃s,zHi n=some (.str s)/\s.length<=20:=by
 obtain ⟨i,rfl⟩:=Int.eq_ofNat_of_zero_le h0;have hi:i<64:=by omega
 refine ⟨decN i,?_,?_⟩
 ·show (match Nat.blt i 100 with | true=>some (AV.str (decN i)) | false=>none)=_
  rw [show Nat.blt i 100=true from by rw [Nat.blt_eq];omega]
 ·have:(Lib.decDigits i).length<=2:=by
   rw [Lib.decDigits];split
   ·simp
   ·rw [Lib.decDigits];split
    ·simp
    ·omega
  unfold decN;rw [List.length_map];omega
theorem zQC (n:Int) (h0:-9223372036854775808<=n) (h1:n<=9223372036854775807):∃s,zCP n (Int.ofNat 10)=some (.str s)/\s.length<=21:=by
 refine ⟨(Lib.itoa n).map UInt8.toNat,?_,?_⟩
 ·show (match ((Int.ofNat 10==10)&&decide (-9223372036854775808<=n/\n<=9223372036854775807)) with | true=>some (AV.str ((Lib.itoa n).map UInt8.toNat)) | false=>none)=_
  rw [decide_eq_true (⟨h0,h1⟩:-9223372036854775808<=n/\n<=9223372036854775807)];rfl
 ·rw [List.length_map];exact Lib.itoa_length_le n h0 h1
theorem zNk (s:List Nat) (c:Nat):∃n,zED s (Int.ofNat c)=some (.int .i64 n):=⟨_,rfl⟩
theorem zOY (s:List Nat) (h:s.length<=1000):∃n v,zC9 s (Int.ofNat 10) (Int.ofNat 64)=some (.tup [.int .i64 n,v])/\-9223372036854775808<=n/\n<=9223372036854775807:=by
 have hs:∀l,-9223372036854775808<=Lib.intSat 64 l/\Lib.intSat 64 l<=9223372036854775807:=fun l=>by unfold Lib.intSat;split <;> decide
 have e:Nat.ble s.length 281474976710656=true:=by rw [Nat.ble_eq];omega
 have e2:(Nat.ble s.length 281474976710656&&(Int.ofNat 10==10&&Int.ofNat 64==64))=true:=by rw [e];rfl
 unfold zC9 zBk zNA;simp only [e2];cases hp:Lib.parseIntB 64 (s.map UInt8.ofNat) with
 | ok v=>
  have hb:=Lib.parseIntB_bounds hp;exact ⟨_,_,rfl,hb.1,Int.le_of_lt_add_one hb.2⟩
 | range=>exact ⟨_,_,rfl,hs _⟩
 | _=>exact ⟨_,_,rfl,by decide,by decide⟩
set_option maxRecDepth 100000 in
theorem zRK:zBw=some (.bool true):=by
 unfold zBw gvF;rw [zG4]
 kernel_rfl
abbrev am (a b c d:Int):AV:=.agg [.int .i64 a,.int .i64 b,.int .i64 c,.int .i64 d]
def okA (a b c d:Int):Prop:=(0<=a/\a<=1099511627776)/\(0<=b/\b<=1099511627776)/\(0<=c/\c<=1099511627776)/\(0<=d/\d<=1099511627776)
instance (a b c d:Int):Decidable (okA a b c d):=by unfold okA;infer_instance
theorem zJI {β:Type} {o:Option β} {x:β} (h:Wp o fun v=>v=x):o=some x:=let ⟨_,e,h⟩:=h;h▸e
theorem zDn (a b c d:Int):zAr a b c d=some (.int .i64 (if okA a b c d then 0 else 2)):=by
 refine zJI ?_
 rw [zIh];refine zBK (z8 ..) ?_
 repeat' first | refine Wp.ite (fun _=>?_) (fun _=>?_) | refine Wp.mk ?_
 all_goals (first | rw [if_neg (by unfold okA;omega)];rfl | rw [if_pos (by unfold okA;omega)];rfl)
theorem zOZ (n i:Nat) (es:List AV) (a b c d:Int) (h:i<es.length) (he:es[i]=am a b c d) (hl:es.length<=2000000):zAm (n+1) es (Int.ofNat es.length) (Int.ofNat i)=if okA a b c d then zAm n es (Int.ofNat es.length) (Int.ofNat (i+1)) else some (.bool false):=by
 rw [zEy,show decide (Int.ofNat i<Int.ofNat es.length)=true from decide_eq_true (Int.ofNat_lt.2 h),zFM,zC7 h,he,zRI,zDn,ek_i,zp (by omega)]
 split <;> rfl
theorem zU3 (n:Nat) (es:List AV):zAm (n+1) es (Int.ofNat es.length) (Int.ofNat es.length)=some (.bool true):=by
 rw [zEy,show decide (Int.ofNat es.length<Int.ofNat es.length)=false from decide_eq_false (Int.lt_irrefl _),zCl]
theorem zIc (a b c d a' b' c' d':Int):zDu [am a b c d,am a' b' c' d']=some (.bool (decide (okA a b c d/\okA a' b' c' d'))):=by
 rw [zJ0,show FUEL=1180591620717411303421+1+1+1 from zG4,zOZ _ 0 [am a b c d,am a' b' c' d'] a b c d (by simp) rfl (by simp),zOZ _ 1 [am a b c d,am a' b' c' d'] a' b' c' d' (by simp) rfl (by simp)]
 have e:=zU3 1180591620717411303421 [am a b c d,am a' b' c' d'];have e:zAm (1180591620717411303421+1) [am a b c d,am a' b' c' d'] (Int.ofNat [am a b c d,am a' b' c' d'].length) (Int.ofNat (1+1))=some (.bool true):=e;rw [e];by_cases h1:okA a b c d <;> by_cases h2:okA a' b' c' d' <;> simp [h1,h2]
def zHJ (a b c d a' b' c' d':Int):Prop:=a<=a'/\b<=b'/\c<=c'/\d<=d'
instance (a b c d a' b' c' d':Int):Decidable (zHJ a b c d a' b' c' d'):=by unfold zHJ;infer_instance
theorem zE9 (a b c d a' b' c' d':Int):zBN a b c d a' b' c' d'=some (.bool (decide (zHJ a b c d a' b' c' d'))):=by
 refine zJI ?_
 rw [zJk];refine zBK (z8 ..) (zBK (z8 ..) ?_)
 repeat' first | refine Wp.ite (fun _=>?_) (fun _=>?_) | refine Wp.mk ?_
 all_goals (first | rw [decide_eq_false (by unfold zHJ;omega)] | rw [decide_eq_true (by unfold zHJ;omega)])
theorem zO0 (a b c d a' b' c' d':Int):Wp (zEL a b c d a' b' c' d') fun v=>∃x y z u e,v=.tup [am x y z u,.int .i64 e]/\(e=0->okA a b c d/\okA a' b' c' d'/\x=a-a'/\y=b-b'/\z=c-c'/\u=d-d'/\okA x y z u):=by
 rw [zJ1];refine qk_b (zIc ..) (Wp.if (fun _=>Wp.mk ⟨_,_,_,_,_,rfl,fun h=>(by cases h)⟩) fun h=>?_)
 have h:okA a b c d/\okA a' b' c' d':=by simpa using h
 refine qk_b (zE9 ..) (Wp.if (fun _=>Wp.mk ⟨_,_,_,_,_,rfl,fun h=>(by cases h)⟩) fun h2=>?_)
 have h2:zHJ a' b' c' d' a b c d:=by simpa using h2
 refine zBK (z8 ..) (zBK (z8 ..) ?_)
 rw [zHS];refine zBK (zCC ..) (Wp.mk ⟨_,_,_,_,_,rfl,fun _=>⟨h.1,h.2,?_⟩⟩)
 unfold okA zHJ at *;rw [zc (by omega) (by omega),zc (by omega) (by omega),zc (by omega) (by omega),zc (by omega) (by omega)]
 refine ⟨rfl,rfl,rfl,rfl,by omega⟩
theorem zO1 (a b c d a' b' c' d':Int):Wp (zEM a b c d a' b' c' d') fun v=>∃x y z u e,v=.tup [am x y z u,.int .i64 e]/\True:=by
 rw [zJ3];refine qk_b (zIc ..) (Wp.if (fun _=>Wp.mk ⟨_,_,_,_,_,rfl,trivial⟩) fun h=>?_)
 refine zBK (z8 ..) (zBK (z8 ..) ?_)
 repeat' first | refine Wp.ite (fun _=>?_) (fun _=>?_) | exact Wp.mk ⟨_,_,_,_,_,rfl,trivial⟩
 rw [zHU];exact zBK (zCC ..) (Wp.mk ⟨_,_,_,_,_,rfl,trivial⟩)
abbrev bytes (s:List Nat):List AV:=s.map fun b=>AV.int .u8 (.ofNat b)
abbrev isB (v:AV):Prop:=∃b,v=.bool b/\True
theorem zI9 (s:List Nat):Wp (zCN s) isB:=by
 have loop:∀(n i:Nat),i<=s.length->s.length-i<n->s.length<=16->Wp (zDo n (Int.ofNat (bytes s).length) (Int.ofNat i) (bytes s)) isB:=by
  intro n
  induction n with
  | zero=>intro i _ h;omega
  | succ n ih=>
   intro i hi hn hs;rw [zJX];rw [List.length_map];refine Wp.lt (fun h=>zFC h (qk_u (zLA h) ?_)) fun _=>Wp.mk ⟨_,rfl,trivial⟩
   have next:∀b,Wp (zAf n (Int.ofNat s.length) (Int.ofNat i) b (bytes s)) isB:=fun b=>by
    rw [zJW];refine Wp.if (fun _=>Wp.mk ⟨_,rfl,trivial⟩) fun _=>?_
    rw [zp (by omega)]
    have:=ih (i+1) h (by omega) hs
    rwa [List.length_map] at this
   repeat' first | refine Wp.ite (fun _=>?_) (fun _=>?_) | exact next _
 rw [zHc];have j1:∀b,(b=true\/s.length<=16)->Wp (zBs s b) isB:=fun b hb=>by
  rw [zFj];refine Wp.if (fun _=>Wp.mk ⟨_,rfl,trivial⟩) fun h=>?_
  rw [zJY];refine loop _ 0 (Nat.zero_le _) (zv ?_) ?_ <;> rcases hb with hb | hb <;> first | omega | (rw [hb] at h;cases h)
 refine Wp.ite (fun _=>j1 _ (.inl rfl)) fun h1=>Wp.ite (fun _=>j1 _ (.inl rfl)) fun h2=>?_
 rw [Int.ofNat_eq_natCast] at h1 h2;have hl:0<s.length:=by omega
 have hx:ixN s 0=some s[0]:=zC7 hl;simp only [hx,zHH];refine Wp.ite (fun _=>j1 _ (.inl rfl)) fun h1=>j1 _ (.inr (by omega))
abbrev isSI (v:AV):Prop:=∃s n,v=.tup [.str s,.int .i64 n]/\True
theorem zSG {s:List Nat} (h:zCN s=some (.bool true)):s.length<=16:=by
 rcases Nat.lt_or_ge 16 s.length with h' | h'
 ·exfalso
  rw [zHc] at h;have h1:¬Int.ofNat s.length<1:=by rw [Int.ofNat_eq_natCast];omega
  have h2:Int.ofNat s.length > 16:=by rw [Int.ofNat_eq_natCast];omega
  simp only [h1,h2,decide_true,decide_false,zFM,zCl,zFj] at h;cases h
 ·exact h'
theorem zHK (s:List Nat) (i:Int):Wp (zDc s i) isSI:=by
 rw [zL1];obtain ⟨_,hn,b,rfl,_⟩:=zI9 s;refine qk_b hn (Wp.if (fun _=>Wp.mk ⟨_,_,rfl,trivial⟩) fun hb=>?_)
 have hb:b=true:=by simpa using hb
 subst hb;have hl:=zSG hn;refine Wp.ite (fun _=>Wp.mk ⟨_,_,rfl,trivial⟩) fun h0=>Wp.ite (fun _=>Wp.mk ⟨_,_,rfl,trivial⟩) fun h1=>?_
 rw [zJj];obtain ⟨t,ht,hl2⟩:=zSF i (by omega) (by omega)
 refine Wp.gd ?_ (qk_s ht (Wp.gd ?_ (Wp.mk ⟨_,_,rfl,trivial⟩))) <;> (simp only [List.length_append,List.length_cons,List.length_nil,zh];omega)
theorem zPy (s:List Nat) (a b c d e f:Int) (t:List Nat) (g:Bool):Wp (zFg s a b c d e f t g) isB:=by
 rw [zKS];refine zMu (zHK s a) fun _ n _=>?_
 repeat' first | refine Wp.ite (fun _=>?_) (fun _=>?_) | refine Wp.if (fun _=>?_) (fun _=>?_) | exact Wp.mk ⟨_,rfl,trivial⟩ | refine qk_i (zDn ..) ?_
theorem zEu (c:Int):zAp c=some (.bool (decide (48<=c/\c<=57))):=by
 rw [zLV];refine zJI (Wp.ite (fun h=>Wp.mk ?_) fun h=>Wp.mk ?_)
 ·congr 1;exact decide_eq_decide.2 (by omega)
 ·congr 1;exact (decide_eq_false (by omega)).symm
theorem zET (c:Nat):Wp (zBF (Int.ofNat c)) isB:=by
 rw [zKO,zKN,zEu];have hl:Wp (br (decide (IntKind.wrap IntKind.u8 ↑(BitVec.toNat (BitVec.ofInt (IntKind.bits IntKind.u8) (Int.ofNat c) ||| BitVec.ofInt (IntKind.bits IntKind.u8) 32))>=97)) (some (AV.bool (decide (IntKind.wrap IntKind.u8 ↑(BitVec.toNat (BitVec.ofInt (IntKind.bits IntKind.u8) (Int.ofNat c) ||| BitVec.ofInt (IntKind.bits IntKind.u8) 32))<=122)))) (some (AV.bool false))) isB:=by
  refine Wp.ite (fun _=>Wp.mk ⟨_,rfl,trivial⟩) fun _=>Wp.mk ⟨_,rfl,trivial⟩
 refine wk_b hl fun b _=>Wp.if (fun _=>Wp.mk ⟨_,rfl,trivial⟩) fun _=>qk_b rfl (Wp.if (fun _=>Wp.mk ⟨_,rfl,trivial⟩) fun _=>?_)
 obtain ⟨n,hn⟩:=zNk [45,95,46] c;exact qk_i hn (Wp.mk ⟨_,rfl,trivial⟩)
theorem zPz (s:List Nat):Wp (zFe s) isB:=by
 have loop:∀(n i:Nat),i<=s.length->s.length-i<n->s.length<=24->Wp (zCs n (Int.ofNat (bytes s).length) (Int.ofNat i) (bytes s)) isB:=by
  intro n
  induction n with
  | zero=>intro i _ h;omega
  | succ n ih=>
   intro i hi hn hs;rw [zIo,List.length_map];refine Wp.lt (fun h=>zFC h (qk_u (zLA h) ?_)) fun _=>Wp.mk ⟨_,rfl,trivial⟩
   have next:∀b,Wp (zAs n (Int.ofNat s.length) (Int.ofNat i) b (bytes s)) isB:=fun b=>by
    rw [zIn];refine Wp.if (fun _=>Wp.mk ⟨_,rfl,trivial⟩) fun _=>?_
    rw [zp (by omega)]
    have:=ih (i+1) h (by omega) hs
    rwa [List.length_map] at this
   repeat' first | refine Wp.ite (fun _=>?_) (fun _=>?_) | refine Wp.if (fun _=>?_) (fun _=>?_) | refine qk_b (zEu _) ?_ | exact next _
 rw [zKQ];have j1:∀b,(b=true\/s.length<=24)->Wp (zAX s b) isB:=fun b hb=>by
  rw [zIq];refine Wp.if (fun _=>Wp.mk ⟨_,rfl,trivial⟩) fun h=>?_
  rw [zIp];refine loop _ 0 (Nat.zero_le _) (zv ?_) ?_ <;> rcases hb with hb | hb <;> first | omega | (rw [hb] at h;cases h)
 refine Wp.ite (fun _=>j1 _ (.inl rfl)) fun h1=>Wp.ite (fun _=>j1 _ (.inl rfl)) fun h2=>?_
 rw [Int.ofNat_eq_natCast] at h1 h2;have hl:0<s.length:=by omega
 have hx:ixN s 0=some s[0]:=zC7 hl;simp only [hx,zHH];refine Wp.ite (fun _=>j1 _ (.inl rfl)) fun h1=>j1 _ (.inr (by omega))
theorem zPA (s:List Nat):Wp (zFf s) isB:=by
 have loop:∀(n i:Nat),i<=s.length->s.length-i<n->s.length<=32->Wp (zCt n (Int.ofNat (bytes s).length) (Int.ofNat i) (bytes s)) isB:=by
  intro n
  induction n with
  | zero=>intro i _ h;omega
  | succ n ih=>
   intro i hi hn hs;rw [zIr,List.length_map];refine Wp.lt (fun h=>zFC h (qk_u (zLA h) (wk_b (zET _) fun b _=>Wp.if (fun _=>Wp.mk ⟨_,rfl,trivial⟩) fun _=>?_))) fun _=>Wp.mk ⟨_,rfl,trivial⟩
   rw [zp (by omega)]
   have:=ih (i+1) h (by omega) hs
   rwa [List.length_map] at this
 rw [zKR];refine Wp.ite (fun _=>Wp.mk ⟨_,rfl,trivial⟩) fun h1=>Wp.ite (fun _=>Wp.mk ⟨_,rfl,trivial⟩) fun h2=>?_
 rw [Int.ofNat_eq_natCast] at h1 h2;rw [zIs];exact loop _ 0 (Nat.zero_le _) (zv (by omega)) (by omega)
theorem zId (s:List Nat):∃b,zBO s=some (.bool b)/\(b=true->s.length<=12/\∀c∈s,48<=c/\c<=57):=by
 have loop:∀(n i:Nat),i<=s.length->s.length-i<n->s.length<=12->Wp (zBP n (Int.ofNat (bytes s).length) (Int.ofNat i) (bytes s)) fun v=>∃b,v=.bool b/\(b=true->∀j,i<=j->∀h:j<s.length,48<=s[j]/\s[j]<=57):=by
  intro n
  induction n with
  | zero=>intro i _ h;omega
  | succ n ih=>
   intro i hi hn hs;rw [zHm,List.length_map];refine Wp.lt (fun h=>zFC h (qk_u (zLA h) (qk_b (zEu _) (Wp.if (fun _=>Wp.mk ⟨_,rfl,fun h=>(by cases h)⟩) fun hd=>?_)))) fun hle=>Wp.mk ⟨_,rfl,fun _ j h1 h2=>by omega⟩
   rw [zp (by omega)]
   have:=ih (i+1) h (by omega) hs
   rw [List.length_map] at this;refine this.mono fun v ⟨b,e,hb⟩=>⟨b,e,fun hbt j h1 h2=>?_⟩
   rcases Nat.lt_or_ge i j with hj | hj
   ·exact hb hbt j hj h2
   ·have:j=i:=by omega
    subst this;have hd:48<=Int.ofNat s[j]/\Int.ofNat s[j]<=57:=by simpa using hd
    rw [Int.ofNat_eq_natCast] at hd;omega
 have:Wp (zBO s) fun v=>∃b,v=.bool b/\(b=true->s.length<=12/\∀c∈s,48<=c/\c<=57):=by
  rw [zJm];refine Wp.ite (fun _=>Wp.mk ⟨_,rfl,fun h=>(by cases h)⟩) fun h1=>Wp.ite (fun _=>Wp.mk ⟨_,rfl,fun h=>(by cases h)⟩) fun h2=>?_
  rw [Int.ofNat_eq_natCast] at h1 h2;rw [zHn];refine (loop _ 0 (Nat.zero_le _) (zv (by omega)) (by omega)).mono fun v ⟨b,e,hb⟩=>⟨b,e,fun hbt=>⟨by omega,fun c hc=>?_⟩⟩
  obtain ⟨j,hj,rfl⟩:=List.getElem_of_mem hc;exact hb hbt j (Nat.zero_le _) hj
 obtain ⟨v,e,b,rfl,h⟩:=this;exact ⟨b,e,h⟩
end Go.Proofs.YthiefohjkbdjeaaGreatDoor.scoreTurned
namespace Go.Proofs.YthiefohjkbdjeaaGreatDoor.scoreTurned
open Go Go.Sy
abbrev uAV (s:List Nat) (a b c d e f:Int) (t:List Nat) (g:Bool):AV:=.agg [.str s,.int .i64 a,.int .i64 b,.int .i64 c,.int .i64 d,.int .i64 e,.int .i64 f,.str t,.bool g]
def isU (v:AV):Prop:=∃s a b c d e f t g,v=uAV s a b c d e f t g
def Us (es:List AV):Prop:=(∀e∈es,isU e)/\es.length<=2000000
def Ats (es:List AV):Prop:=(∀e∈es,∃s t,e=.agg [.str s,.str t])/\es.length<=2000000
abbrev isE (v:AV):Prop:=∃n,v=.int .i64 n/\True
theorem Us.at {β:Type} {P:β->Prop} {wk:Bool} {es:List AV} (h:Us es) {i:Nat} (hi:i<es.length) {f:List Nat->Int->Int->Int->Int->Int->Int->List Nat->Bool->Option β} (k:∀s a b c d e f' t g,es[i]=uAV s a b c d e f' t g->Wp (f s a b c d e f' t g) P):Wp (dK wk [K.agg 9,K.s,K.i IntKind.i64,K.i IntKind.i64,K.i IntKind.i64,K.i IntKind.i64,K.i IntKind.i64,K.i IntKind.i64,K.s,K.b] (ixN es (Int.ofNat i)) f) P:=by
 obtain ⟨s,a,b,c,d,e,f',t,g,he⟩:=h.1 _ (List.getElem_mem hi);exact zMv ((zC7 hi).trans (congrArg some he)) (k _ _ _ _ _ _ _ _ _ he)
theorem Ats.at {β:Type} {P:β->Prop} {wk:Bool} {es:List AV} (h:Ats es) {i:Nat} (hi:i<es.length) {f:List Nat->List Nat->Option β} (k:∀s t,es[i]=.agg [.str s,.str t]->Wp (f s t) P):Wp (dK wk [K.agg 2,K.s,K.s] (ixN es (Int.ofNat i)) f) P:=by
 obtain ⟨s,t,he⟩:=h.1 _ (List.getElem_mem hi);exact zUX ((zC7 hi).trans (congrArg some he)) (k _ _ he)
theorem zLL (es:List AV) (h:Ats es):Wp (zEx es) isE:=by
 have loop:∀(n i:Nat),i<=es.length->es.length-i<n->Wp (zCX n es es (Int.ofNat es.length) (Int.ofNat i)) isE:=by
  intro n
  induction n with
  | zero=>intro i _ h;omega
  | succ n ih=>
   intro i hi hn;rw [zJi];refine Wp.lt (fun hlt=>h.at hlt fun s t _=>?_) fun _=>Wp.mk ⟨_,rfl,trivial⟩
   have next:∀b,Wp (zA9 n es es (Int.ofNat es.length) (Int.ofNat i) b) isE:=fun b=>by
    rw [zJh];refine Wp.if (fun _=>Wp.mk ⟨_,rfl,trivial⟩) fun _=>?_
    rw [zp (by have:=h.2;omega)]
    exact ih (i+1) hlt (by omega)
   refine wk_b (zPz s) fun b _=>Wp.if (fun _=>next _) fun _=>wk_b (zPA t) fun b _=>Wp.if (fun _=>next _) fun _=>Wp.ite (fun hp=>?_) fun _=>next _
   rw [Int.ofNat_eq_natCast] at hp;rw [zEp (by omega) (by have:=h.2;omega)]
   exact h.at (by omega) fun _ _ _=>next _
 rw [zLZ];exact Wp.ite (fun _=>Wp.mk ⟨_,rfl,trivial⟩) fun _=>loop _ 0 (Nat.zero_le _) (zv (by have:=h.2;omega))
abbrev sub (es:List AV) (v:AV):Prop:=∃l,v=.lst 9 l/\(∀e∈l,e∈es)/\l.length<=es.length
theorem Us.sub {es l:List AV} (h:Us es) (h1:∀e∈l,e∈es) (h2:l.length<=es.length):Us l:=⟨fun e he=>h.1 e (h1 e he),Nat.le_trans h2 h.2⟩
theorem zEJ {n k:Nat} (h:n<=2000001) (hk:k<=200):n*k<=ze/\n<=ze:=by
 have:n*k<=2000001*200:=Nat.mul_le_mul h hk;unfold ze;omega
theorem zSH (es:List AV) (h:Us es) (p:List Nat):Wp (zAY es p) (sub es):=by
 have loop:∀(n i:Nat) (l:List AV),i<=es.length->es.length-i<n->(∀e∈l,e∈es)->l.length<=i->Wp (zO n p es (Int.ofNat es.length) (Int.ofNat i) l) (sub es):=by
  intro n
  induction n with
  | zero=>intro i l _ h;omega
  | succ n ih=>
   intro i l hi hn hl hll;rw [zDA];have hL:=h.2;refine Wp.lt (fun hlt=>h.at hlt fun s a b c d e f t g he=>?_) fun _=>Wp.mk ⟨l,rfl,hl,by omega⟩
   rw [zp (by omega)]
   refine qk_b (zNl ..) (Wp.if (fun _=>Wp.gd (zEJ (show l.length+1<=_ by omega) (by omega)) (ih (i+1) _ hlt (by omega) (fun x hx=>?_) ?_)) fun _=>ih (i+1) l hlt (by omega) hl (by omega))
   ·rcases List.mem_append.1 hx with hx | hx
    ·exact hl x hx
    ·have:x=uAV s a b c d e f t g:=List.mem_singleton.1 hx;rw [this,←he];exact List.getElem_mem hlt
   ·rw [List.length_append];show l.length+1<=_;omega
 rw [zEe];exact loop _ 0 [] (Nat.zero_le _) (zv (by have:=h.2;omega)) (fun _ h=>by cases h) (Nat.le_refl _)
theorem zV1 (es:List AV) (h:Us es) (p:List Nat):Wp (zKU es p) (sub es):=by
 rw [zPI];exact zLJ (zSH es h p) fun l hl=>Wp.mk ⟨l,rfl,hl⟩
theorem zPB (es:List AV) (h:Us es) (p:List Nat) (s0:List Nat) (a0 b0 c0 d0 e0:Int) (r0:List AV) (t0:List Nat):Wp (zAB es p s0 a0 b0 c0 d0 e0 r0 t0) (sub es):=by
 have loop:∀(n i:Nat) (l:List AV),i<=es.length->es.length-i<n->(∀e∈l,e∈es)->l.length<=i->Wp (zE n p s0 a0 b0 c0 d0 e0 r0 t0 es (Int.ofNat es.length) (Int.ofNat i) l) (sub es):=by
  intro n
  induction n with
  | zero=>intro i l _ h;omega
  | succ n ih=>
   intro i l hi hn hl hll;rw [zCY];have hL:=h.2;refine Wp.lt (fun hlt=>h.at hlt fun s a b c d e f t g he=>?_) fun _=>Wp.mk ⟨l,rfl,hl,by omega⟩
   rw [zp (by omega)]
   have hg:Wp (zFh s a b c d e f t g p s0 a0 b0 c0 d0 e0 r0 t0) isB:=by
    rw [zKT]
    repeat' first | refine Wp.ite (fun _=>?_) (fun _=>?_) | refine Wp.if (fun _=>?_) (fun _=>?_) | exact Wp.mk ⟨_,rfl,trivial⟩
   refine wk_b hg fun _ _=>(Wp.if (fun _=>Wp.gd (zEJ (show l.length+1<=_ by omega) (by omega)) (ih (i+1) _ hlt (by omega) (fun x hx=>?_) ?_)) fun _=>ih (i+1) l hlt (by omega) hl (by omega))
   ·rcases List.mem_append.1 hx with hx | hx
    ·exact hl x hx
    ·have:x=uAV s a b c d e f t g:=List.mem_singleton.1 hx;rw [this,←he];exact List.getElem_mem hlt
   ·rw [List.length_append];show l.length+1<=_;omega
 rw [zDB];exact loop _ 0 [] (Nat.zero_le _) (zv (by have:=h.2;omega)) (fun _ h=>by cases h) (Nat.le_refl _)
theorem zRL (es:List AV) (h:Us es) (s0:List Nat) (a0 b0 c0 d0 e0:Int) (r0:List AV) (t0:List Nat):Wp (zAS es s0 a0 b0 c0 d0 e0 r0 t0) (sub es):=by
 have loop:∀(n i:Nat) (l:List AV),i<=es.length->es.length-i<n->(∀e∈l,e∈es)->l.length<=i->Wp (zK n s0 a0 b0 c0 d0 e0 r0 t0 es (Int.ofNat es.length) (Int.ofNat i) l) (sub es):=by
  intro n
  induction n with
  | zero=>intro i l _ h;omega
  | succ n ih=>
   intro i l hi hn hl hll;rw [zDt];have hL:=h.2;refine Wp.lt (fun hlt=>h.at hlt fun s a b c d e f t g he=>?_) fun _=>Wp.mk ⟨l,rfl,hl,by omega⟩
   rw [zp (by omega)]
   have hg:Wp (zGU s a b c d e f t g s0 a0 b0 c0 d0 e0 r0 t0) isB:=by
    rw [zMC]
    repeat' first | refine Wp.ite (fun _=>?_) (fun _=>?_) | refine Wp.if (fun _=>?_) (fun _=>?_) | exact Wp.mk ⟨_,rfl,trivial⟩
   refine wk_b hg fun _ _=>(Wp.if (fun _=>Wp.gd (zEJ (show l.length+1<=_ by omega) (by omega)) (ih (i+1) _ hlt (by omega) (fun x hx=>?_) ?_)) fun _=>ih (i+1) l hlt (by omega) hl (by omega))
   ·rcases List.mem_append.1 hx with hx | hx
    ·exact hl x hx
    ·have:x=uAV s a b c d e f t g:=List.mem_singleton.1 hx;rw [this,←he];exact List.getElem_mem hlt
   ·rw [List.length_append];show l.length+1<=_;omega
 rw [zD2];exact loop _ 0 [] (Nat.zero_le _) (zv (by have:=h.2;omega)) (fun _ h=>by cases h) (Nat.le_refl _)
def within (a b c d x y z u:Int):Prop:=okA a b c d->okA x y z u/\x<=a/\y<=b/\z<=c/\u<=d
theorem zSI (es:List AV) (h:Us es) (a b c d:Int):Wp (zHT a b c d es) fun v=>∃x y z u g,v=.tup [am x y z u,.bool g]/\within a b c d x y z u:=by
 have loop:∀(n i:Nat) (a' b' c' d':Int),i<=es.length->es.length-i<n->within a b c d a' b' c' d'->Wp (zDR n es (Int.ofNat es.length) (Int.ofNat i) a' b' c' d' (Int.ofNat 0) (Int.ofNat 0) (Int.ofNat 0) (Int.ofNat 0)) fun v=>∃x y z u g,v=.tup [am x y z u,.bool g]/\within a b c d x y z u:=by
  intro n
  induction n with
  | zero=>intro i _ _ _ _ _ h;omega
  | succ n ih=>
   intro i a' b' c' d' hi hn hw;have hL:=h.2;rw [zKV];refine Wp.lt (fun hlt=>h.at hlt fun s j k l1 l2 l3 l4 t g he=>?_) fun _=>Wp.mk ⟨_,_,_,_,_,rfl,hw⟩
   refine zF6 (zO0 ..) fun x y z u e hs=>Wp.if (fun _=>Wp.mk ⟨_,_,_,_,_,rfl,fun hk=>?_⟩) fun he0=>?_
   ·unfold okA at *;refine ⟨by decide,?_⟩;exact ⟨hk.1.1,hk.2.1.1,hk.2.2.1.1,hk.2.2.2.1⟩
   ·rw [zp (by omega)]
    have he0:e=0:=by simpa using he0
    obtain ⟨q1,q2,rfl,rfl,rfl,rfl,q3⟩:=hs he0;refine ih (i+1) _ _ _ _ hlt (by omega) fun hk=>?_
    obtain ⟨w1,w2,w3,w4,w5⟩:=hw hk;refine ⟨q3,?_⟩
    unfold okA at q2;omega
 rw [zNm];exact loop _ 0 _ _ _ _ (Nat.zero_le _) (zv (by have:=h.2;omega)) fun hk=>⟨hk,Int.le_refl _,Int.le_refl _,Int.le_refl _,Int.le_refl _⟩
theorem zO2 (nm:List Nat) (ats:List AV) (c1 c2 c3 c4:Int) (up:Bool) (us:List AV) (h:Us us) (p:List Nat):Wp (zEK nm ats c1 c2 c3 c4 up us p) fun v=>∃s a b c d e f t g g',v=.tup [uAV s a b c d e f t g,.bool g']/\True:=by
 have loop:∀(n i:Nat) (s:List Nat) (a b c d e f:Int) (t:List Nat) (g:Bool),i<=us.length->us.length-i<n->Wp (zBZ n p us (Int.ofNat us.length) (Int.ofNat i) s a b c d e f t g) fun v=>∃s a b c d e f t g g',v=.tup [uAV s a b c d e f t g,.bool g']/\True:=by
  intro n
  induction n with
  | zero=>intro i _ _ _ _ _ _ _ _ _ _ h;omega
  | succ n ih=>
   intro i s a b c d e f t g hi hn;have hL:=h.2;rw [zHR];refine Wp.lt (fun hlt=>h.at hlt fun s' a' b' c' d' e' f' t' g' he=>?_) fun _=>Wp.mk ⟨_,_,_,_,_,_,_,_,_,_,rfl,trivial⟩
   have next:∀q,Wp (zAM n p us (Int.ofNat us.length) (Int.ofNat i) q s' a' b' c' d' e' f' t' g' s a b c d e f t g) (fun v=>∃s a b c d e f t g g',v=.tup [uAV s a b c d e f t g,.bool g']/\True):=fun q=>by
    rw [zHQ,zp (by omega)]
    exact Wp.if (fun _=>Wp.mk ⟨_,_,_,_,_,_,_,_,_,_,rfl,trivial⟩) fun _=>ih (i+1) _ _ _ _ _ _ _ _ _ hlt (by omega)
   refine zMu (zHK s' a') fun _ k _=>?_
   repeat' first | exact next _ | refine Wp.if (fun _=>?_) (fun _=>?_)
 rw [zJZ];exact loop _ 0 _ _ _ _ _ _ _ _ _ (Nat.zero_le _) (zv (by have:=h.2;omega))
end Go.Proofs.YthiefohjkbdjeaaGreatDoor.scoreTurned
namespace Go.Proofs.YthiefohjkbdjeaaGreatDoor.scoreTurned
open Go Go.Sy
abbrev ndAV (k:Int) (s t:List Nat) (n l r:Int):AV:=.agg [.int .i64 k,.str s,.str t,.int .i64 n,.int .i64 l,.int .i64 r]
def Nds (es:List AV):Prop:=(∀e∈es,∃k s t n l r,e=ndAV k s t n l r/\-9223372036854775808<=n/\n<=9223372036854775807/\s.length<=2000000/\t.length<=2000000)/\es.length<=2000000
theorem Nds.at {β:Type} {P:β->Prop} {wk:Bool} {es:List AV} (h:Nds es) {i:Nat} (hi:i<es.length) {f:Int->List Nat->List Nat->Int->Int->Int->Option β} (k:∀kd s t n l r,es[i]=ndAV kd s t n l r->-9223372036854775808<=n->n<=9223372036854775807->Wp (f kd s t n l r) P):Wp (dK wk [K.agg 6,K.i IntKind.i64,K.s,K.s,K.i IntKind.i64,K.i IntKind.i64,K.i IntKind.i64] (ixN es (Int.ofNat i)) f) P:=by
 obtain ⟨kd,s,t,n,l,r,he,h1,h2,_⟩:=h.1 _ (List.getElem_mem hi);exact zDH ((zC7 hi).trans (congrArg some he)) (k _ _ _ _ _ _ he h1 h2)
theorem zJa (es fs:List AV) (h:Nds es) (h':Nds fs):Wp (zY es fs) isB:=by
 have loop:es.length=fs.length->∀(n i:Nat),i<=es.length->es.length-i<n->Wp (zT n es fs (Int.ofNat es.length) (Int.ofNat i)) isB:=by
  intro hl n
  induction n with
  | zero=>intro i _ h;omega
  | succ n ih=>
   intro i hi hn;rw [zCS];refine Wp.lt (fun hlt=>h.at hlt fun _ _ _ _ _ _ _ _ _=>h'.at (hl▸hlt) fun _ _ _ _ _ _ _ _ _=>Wp.if (fun _=>Wp.mk ⟨_,rfl,trivial⟩) fun _=>?_) fun _=>Wp.mk ⟨_,rfl,trivial⟩
   rw [zp (by have:=h.2;omega)]
   exact ih (i+1) hlt (by omega)
 rw [zDs];refine Wp.if (fun _=>Wp.mk ⟨_,rfl,trivial⟩) fun e=>loop ?_ _ 0 (Nat.zero_le _) (zv (by have:=h.2;omega))
 have e:(es.length:Int)=fs.length:=by simpa using e
 exact Int.ofNat_inj.1 e
end Go.Proofs.YthiefohjkbdjeaaGreatDoor.scoreTurned
namespace Go.Proofs.YthiefohjkbdjeaaGreatDoor.scoreTurned
open Go Go.Sy
structure PS where
 s:List Nat
 i:Int
 dp:Int
 n:Int
 e:Int
 fa:Int
 l:List AV
abbrev outS (v:AV) (q:PS):AV×Heap×Vecs:=(v,[(0,HO.cells false [.str q.s,.int .i64 q.i,.int .i64 q.dp,.int .i64 q.n,AV.sym 0,.int .i64 q.e,.int .i64 q.fa])],[(0,VI.vec 6 q.l)])
section
variable {β:Type} {wk:Bool} {P:β->Prop} {o:Option (AV×Heap×Vecs)}
theorem wdU {f:List Nat->Int->Int->Int->Int->Int->List AV->Option β} {R:PS->Prop} (h:Wp o fun v=>∃q,v=outS (.tup []) q/\R q) (k:∀q,R q->Wp (f q.s q.i q.dp q.n q.e q.fa q.l) P):Wp (dD wk [D.v (K.tup 0),D.hc 0 false 7,D.v K.s,D.v (K.i IntKind.i64),D.v (K.i IntKind.i64),D.v (K.i IntKind.i64),D.v (K.c (AV.sym 0)),D.v (K.i IntKind.i64),D.v (K.i IntKind.i64),D.vec 0 6] o f) P:=by
 obtain ⟨v,rfl,q,rfl,h⟩:=h;exact k q h
theorem wdB {f:Bool->List Nat->Int->Int->Int->Int->Int->List AV->Option β} {R:Bool->PS->Prop} (h:Wp o fun v=>∃b q,v=outS (.bool b) q/\R b q) (k:∀b q,R b q->Wp (f b q.s q.i q.dp q.n q.e q.fa q.l) P):Wp (dD wk [D.v K.b,D.hc 0 false 7,D.v K.s,D.v (K.i IntKind.i64),D.v (K.i IntKind.i64),D.v (K.i IntKind.i64),D.v (K.c (AV.sym 0)),D.v (K.i IntKind.i64),D.v (K.i IntKind.i64),D.vec 0 6] o f) P:=by
 obtain ⟨v,rfl,b,q,rfl,h⟩:=h;exact k b q h
theorem wdI {f:Int->List Nat->Int->Int->Int->Int->Int->List AV->Option β} {R:Int->PS->Prop} (h:Wp o fun v=>∃b q,v=outS (.int .i64 b) q/\R b q) (k:∀b q,R b q->Wp (f b q.s q.i q.dp q.n q.e q.fa q.l) P):Wp (dD wk [D.v (K.i IntKind.i64),D.hc 0 false 7,D.v K.s,D.v (K.i IntKind.i64),D.v (K.i IntKind.i64),D.v (K.i IntKind.i64),D.v (K.c (AV.sym 0)),D.v (K.i IntKind.i64),D.v (K.i IntKind.i64),D.vec 0 6] o f) P:=by
 obtain ⟨v,rfl,b,q,rfl,h⟩:=h;exact k b q h
theorem wdS {f:List Nat->List Nat->Int->Int->Int->Int->Int->List AV->Option β} {R:List Nat->PS->Prop} (h:Wp o fun v=>∃b q,v=outS (.str b) q/\R b q) (k:∀b q,R b q->Wp (f b q.s q.i q.dp q.n q.e q.fa q.l) P):Wp (dD wk [D.v K.s,D.hc 0 false 7,D.v K.s,D.v (K.i IntKind.i64),D.v (K.i IntKind.i64),D.v (K.i IntKind.i64),D.v (K.c (AV.sym 0)),D.v (K.i IntKind.i64),D.v (K.i IntKind.i64),D.vec 0 6] o f) P:=by
 obtain ⟨v,rfl,b,q,rfl,h⟩:=h;exact k b q h
end
def PS.nf (p:PS):Prop:=p.e=0/\p.fa=0
def WFn (j:Nat) (v:AV):Prop:=∃k s t n a b,v=nd6 k s t n a b/\(-9223372036854775808<=n/\n<=9223372036854775807)/\s.length<=24/\t.length<=32 ∧
 (k=7->∃a':Nat,a=Int.ofNat a'/\a'<j)/\(k=8\/k=9->∃a' b':Nat,a=Int.ofNat a'/\b=Int.ofNat b'/\a'<b'/\b'<j)
def WF (l:List AV):Prop:=∀j v,l[j]? = some v->WFn j v
structure Inv (p:PS):Prop where
 i0:0<=p.i
 i1:p.i<=p.s.length
 big:p.s.length<=1024
 ok:p.nf->0<=p.dp/\p.dp<=32/\(p.l.length:Int)<=p.n/\p.n<=64/\WF p.l
structure Stp (k:Int) (p q:PS):Prop where
 s:q.s=p.s
 i:p.i<=q.i
 nf:q.nf->p.nf/\q.dp=p.dp/\q.n-q.l.length=p.n-p.l.length+k/\p.l.length<=q.l.length
theorem Stp.trans {a b:Int} {p q r:PS} (h:Stp a p q) (k:Stp b q r):Stp (a+b) p r:=⟨k.s.trans h.s,Int.le_trans h.i k.i,fun hr=>by
 obtain ⟨q1,q2,q3,q4⟩:=k.nf hr;obtain ⟨p1,p2,p3,p4⟩:=h.nf q1;exact ⟨p1,q2.trans p2,by omega,Nat.le_trans p4 q4⟩⟩
theorem Stp.trans0 {p q r:PS} {b:Int} (h:Stp 0 p q) (k:Stp b q r):Stp b p r:=by have:=h.trans k;rwa [Int.zero_add] at this
theorem mv {p:PS} (h:Inv p) {i:Int} (h1:p.i<=i) (h2:i<=p.s.length):Inv { p with i:=i }/\Stp 0 p { p with i:=i }:=⟨⟨Int.le_trans h.i0 h1,h2,h.big,fun hn=>h.ok hn⟩,rfl,h1,fun hn=>⟨hn,rfl,by show p.n-p.l.length=_;omega,Nat.le_refl _⟩⟩
theorem zLM {p:PS}:(p.e==0&&p.fa==0)=true↔p.nf:=by unfold PS.nf;simp
theorem zKG {p:PS} (h:(!(p.e==0&&p.fa==0))=true):¬p.nf:=fun hn=>by rw [zLM.2 hn] at h;cases h
theorem zJJ {p:PS} (h:(!(p.e==0&&p.fa==0))=false):p.nf:=zLM.1 (by revert h;cases (p.e==0&&p.fa==0) <;> simp)
theorem zC8 (p:PS) (h:Inv p):Wp (zG p.s p.i p.dp p.n p.e p.fa p.l) fun v=>∃q,v=outS (.tup []) q/\Inv q/\Stp 0 p q/\q.l=p.l:=by
 have big:=h.big;have loop:∀(n:Nat) (i:Int),p.i<=i->i<=p.s.length->p.s.length-i<n->Wp (zAT n p.s i p.dp p.n p.e p.fa p.l) fun v=>∃q,v=outS (.tup []) q/\Inv q/\Stp 0 p q/\q.l=p.l:=by
  intro n
  induction n with
  | zero=>intro i _ _ h;omega
  | succ n ih=>
   intro i h1 h2 hn;have i0:=h.i0;obtain ⟨j,rfl⟩:=Int.eq_ofNat_of_zero_le (Int.le_trans i0 h1);have fin:∃q,outS (.tup []) { p with i:=(j:Int) }=outS (.tup []) q/\Inv q/\Stp 0 p q/\q.l=p.l:=⟨{ p with i:=(j:Int) },rfl,(mv h h1 h2).1,(mv h h1 h2).2,rfl⟩
   rw [zFd];refine Wp.lt (i:=j) (fun hlt=>?_) fun _=>Wp.mk fin
   show Wp (bd (ixN p.s (Int.ofNat j)) _) _
   rw [zC7 hlt];refine Wp.if (fun _=>?_) fun _=>Wp.mk fin
   rw [zFc,zc (by omega) (by omega)]
   exact ih _ (by omega) (by omega) (by omega)
 rw [zGn];exact loop _ _ (Int.le_refl _) h.i1 (by have:=h.i0;have:=zv (n:=1025) (by omega);omega)
theorem zRM (t u:List Nat):∃b,zBy t u=some (.bool b)/\(b=true->u.length<=t.length):=by
 have:Wp (zBy t u) fun v=>∃b,v=.bool b/\(b=true->u.length<=t.length):=by
  rw [zGR];refine wk_b (R:=fun b=>b=true->u.length<=t.length) ?_ fun b hb=>Wp.mk ⟨_,rfl,hb⟩
  rw [zDp];refine Wp.ite (fun hl=>Wp.gd ⟨Int.natCast_nonneg _,hl⟩ (Wp.mk ⟨_,rfl,fun _=>Int.ofNat_le.1 hl⟩)) fun _=>Wp.mk ⟨_,rfl,fun h=>(by cases h)⟩
 obtain ⟨v,e,b,rfl,h⟩:=this;exact ⟨b,e,h⟩
theorem zDN (p:PS) (h:Inv p) (t:List Nat) (ht:t.length<=2):Wp (zA t p.s p.i p.dp p.n p.e p.fa p.l) fun v=>∃b q,v=outS (.bool b) q/\Inv q/\Stp 0 p q/\(b=true->p.i+t.length<=q.i)/\q.l=p.l:=by
 rw [zIk];refine wdU (zC8 p h) fun q hq=>Wp.gd ⟨hq.1.i0,hq.1.i1⟩ ?_
 obtain ⟨b,hb,hl⟩:=zRM (List.drop (Int.toNat q.i) (List.take (Int.toNat (Int.ofNat q.s.length)) q.s)) t;refine qk_b hb (Wp.if (fun hb=>Wp.mk ⟨false,q,rfl,hq.1,hq.2.1,fun h=>(by cases h),hq.2.2⟩) fun hb=>?_)
 have hb:b=true:=by simpa using hb
 have hl:=hl hb;rw [List.length_drop,List.length_take] at hl;have e1:Int.toNat (Int.ofNat q.s.length)=q.s.length:=rfl;have i0:=hq.1.i0;have i1:=hq.1.i1;have big:=hq.1.big;have st:=hq.2.1.i;rw [e1,Nat.min_self] at hl;rw [Int.ofNat_eq_natCast,zc (by omega) (by omega)]
 have m:=mv hq.1 (i:=q.i+t.length) (by omega) (by omega)
 exact Wp.mk ⟨true,{ q with i:=q.i+t.length },rfl,m.1,hq.2.1.trans m.2,fun _=>by show _<=q.i+(t.length:Int);omega,hq.2.2⟩
structure Inv0 (p:PS):Prop where
 i0:0<=p.i
 i1:p.i<=p.s.length
 big:p.s.length<=1024
theorem Inv.z {p:PS} (h:Inv p):Inv0 p:=⟨h.i0,h.i1,h.big⟩
theorem Stp.bad {p q:PS} {k:Int} (hs:q.s=p.s) (hi:p.i<=q.i) (hn:¬q.nf):Stp k p q:=⟨hs,hi,fun h=>absurd h hn⟩
theorem Inv0.bad {q:PS} (h:Inv0 q) (hn:¬q.nf):Inv q:=⟨h.i0,h.i1,h.big,fun h=>absurd h hn⟩
theorem zBU (e i:Int) (he:e≠0) (p:PS) (h:Inv0 p):Wp (zw e i p.s p.i p.dp p.n p.e p.fa p.l) fun v=>∃q,v=outS (.tup []) q/\Inv q/\q.s=p.s/\q.i=p.i/\¬q.nf:=by
 rw [zGS];refine Wp.if (fun hn=>?_) fun hn=>?_
 ·exact Wp.mk ⟨{ p with e:=e,fa:=i },rfl,⟨h.i0,h.i1,h.big,fun hn=>absurd hn.1 he⟩,rfl,rfl,fun hn=>he hn.1⟩
 ·have hn:¬p.nf:=fun hq=>by have hn:(p.e==0&&p.fa==0)=false:=hn;rw [zLM.2 hq] at hn;cases hn
  exact Wp.mk ⟨p,rfl,h.bad hn,rfl,rfl,hn⟩
theorem zF7 (i:Int) (p:PS) (h:Inv p):Wp (z9 i p.s p.i p.dp p.n p.e p.fa p.l) fun v=>∃q,v=outS (.tup []) q/\Inv q/\Stp 1 p q/\(q.nf->q.l=p.l):=by
 rw [zGT];refine Wp.ite (fun hgt=>?_) fun hle=>?_
 ·refine wdU (zBU (Int.ofNat 3) i (by decide) { p with n:=wrapx .i64 (p.n+1) } ⟨h.i0,h.i1,h.big⟩) fun q hq=>Wp.mk ⟨q,rfl,hq.1,.bad hq.2.1 (by rw [hq.2.2.1];exact Int.le_refl _) hq.2.2.2,fun hn=>absurd hn hq.2.2.2⟩
 ·by_cases hn:p.nf
  ·obtain ⟨d0,d1,l1,n1,w⟩:=h.ok hn;rw [zc (by omega) (by omega)] at hle ⊢
   exact Wp.mk ⟨{ p with n:=p.n+1 },rfl,⟨h.i0,h.i1,h.big,fun _=>⟨d0,d1,by show (p.l.length:Int)<=p.n+1;omega,by show p.n+1<=64;omega,w⟩⟩,⟨rfl,Int.le_refl _,fun _=>⟨hn,rfl,by show p.n+1-p.l.length=p.n-p.l.length+1;omega,Nat.le_refl _⟩⟩,fun _=>rfl⟩
  ·exact Wp.mk ⟨{ p with n:=wrapx .i64 (p.n+1) },rfl,Inv0.bad ⟨h.i0,h.i1,h.big⟩ hn,.bad rfl (Int.le_refl _) hn,fun h=>absurd h hn⟩
structure In (b:Bool) (p q:PS):Prop where
 s:q.s=p.s
 i:q.i=p.i
 nf:q.nf->b=true/\p.nf/\q.dp=p.dp+1/\q.n=p.n/\q.l=p.l
theorem zTW (i:Int) (p:PS) (h:Inv p):Wp (zCo i p.s p.i p.dp p.n p.e p.fa p.l) fun v=>∃b q,v=outS (.bool b) q/\Inv q/\In b p q:=by
 rw [zIl];refine Wp.ite (fun hgt=>?_) fun hle=>?_
 ·refine wdU (zBU (Int.ofNat 3) i (by decide) { p with dp:=wrapx .i64 (p.dp+1) } ⟨h.i0,h.i1,h.big⟩) fun q hq=>Wp.mk ⟨false,q,rfl,hq.1,hq.2.1,hq.2.2.1,fun hn=>absurd hn hq.2.2.2⟩
 ·by_cases hn:p.nf
  ·obtain ⟨d0,d1,l1,n1,w⟩:=h.ok hn;rw [zc (by omega) (by omega)] at hle ⊢
   exact Wp.mk ⟨true,{ p with dp:=p.dp+1 },rfl,⟨h.i0,h.i1,h.big,fun _=>⟨by show 0<=p.dp+1;omega,by show p.dp+1<=32;omega,l1,n1,w⟩⟩,rfl,rfl,fun _=>⟨rfl,hn,rfl,rfl,rfl⟩⟩
  ·exact Wp.mk ⟨true,{ p with dp:=wrapx .i64 (p.dp+1) },rfl,Inv0.bad ⟨h.i0,h.i1,h.big⟩ hn,rfl,rfl,fun h=>absurd h hn⟩
def Res (p q:PS) (x:Int):Prop:=q.nf->x=(q.l.length:Int)-1/\p.l.length<q.l.length
theorem zP4 (p:PS) (h:Inv p) (k:Int) (s t:List Nat) (n a b:Int) (hx:p.nf->(p.l.length:Int)+1<=p.n) (hw:p.nf->WFn p.l.length (nd6 k s t n a b)):Wp (zR k s t n a b p.s p.i p.dp p.n p.e p.fa p.l) fun v=>∃x q,v=outS (.int .i64 x) q/\Inv q/\Stp (-1) p q/\Res p q x:=by
 rw [zHd];refine Wp.if (fun hn=>?_) fun hn=>?_
 ·have hn:¬p.nf:=zKG hn;exact Wp.mk ⟨_,p,rfl,h,.bad rfl (Int.le_refl _) hn,fun h=>absurd h hn⟩
 ·have hn:p.nf:=zJJ hn;obtain ⟨d0,d1,l1,n1,w⟩:=h.ok hn;have hx:=hx hn;have hw:=hw hn;have hl:p.l.length<=63:=by omega
  refine Wp.gd ?_ (Wp.mk ⟨_,{ p with l:=p.l++[nd6 k s t n a b] },rfl,⟨h.i0,h.i1,h.big,fun _=>⟨d0,d1,?_,n1,?_⟩⟩,⟨rfl,Int.le_refl _,fun _=>⟨hn,rfl,?_,?_⟩⟩,fun _=>⟨?_,?_⟩⟩)
  ·show (p.l.length+1)*64<=ze/\p.l.length+1<=ze
   unfold ze;omega
  ·show ((p.l++[_]).length:Int)<=p.n
   rw [List.length_append];show ((p.l.length+1:Nat):Int)<=p.n;omega
  ·intro j v hv;show WFn j v
   have hv:(p.l++[nd6 k s t n a b])[j]? = some v:=hv;by_cases hj:j<p.l.length
   ·rw [List.getElem?_append_left hj] at hv;exact w j v hv
   ·rw [List.getElem?_append_right (by omega)] at hv
    have:j=p.l.length:=by
     by_cases e:j-p.l.length=0
     ·omega
     ·rw [List.getElem?_eq_none (by show 1<=_;omega)] at hv;cases hv
    subst this;rw [Nat.sub_self] at hv;cases hv;exact hw
  ·show p.n-((p.l++[_]).length:Int)=p.n-p.l.length+-1
   rw [List.length_append];show p.n-((p.l.length+1:Nat):Int)=_;omega
  ·show p.l.length<=(p.l++[_]).length
   rw [List.length_append];omega
  ·show wrapx .i64 (Int.ofNat (p.l++[nd6 k s t n a b]).length-1)=((p.l++[nd6 k s t n a b]).length:Int)-1
   rw [List.length_append];show wrapx .i64 (Int.ofNat (p.l.length+1)-1)=((p.l.length+1:Nat):Int)-1
   rw [zEp (by omega) (by omega),Int.ofNat_eq_natCast];omega
  ·show p.l.length<(p.l++[_]).length
   rw [List.length_append];show _<p.l.length+1;omega
theorem zV2 (c:Nat):Wp (zCp (Int.ofNat c)) isB:=by
 rw [zGo]
 repeat' first | refine Wp.ite (fun _=>?_) (fun _=>?_) | refine Wp.if (fun _=>?_) (fun _=>?_) | exact Wp.mk ⟨_,rfl,trivial⟩ | refine qk_b (zEu _) ?_
theorem zU4 (c:Nat):Wp (zAp (Int.ofNat c)) isB:=⟨_,zEu _,_,rfl,trivial⟩
theorem zPC (m:Int) (m0:0<=m) (m1:m<=1000) (p:PS) (h:Inv p):Wp (zAc m p.s p.i p.dp p.n p.e p.fa p.l) fun v=>∃t q,v=outS (.str t) q/\Inv q/\Stp 0 p q/\(t.length:Int)<=m:=by
 have big:=h.big;have loop:∀(n:Nat) (i:Int),p.i<=i->i<=p.s.length->i-p.i<=m->p.s.length-i<n->Wp (zJ n m p.i p.s i p.dp p.n p.e p.fa p.l) fun v=>∃t q,v=outS (.str t) q/\Inv q/\Stp 0 p q/\(t.length:Int)<=m:=by
  intro n
  induction n with
  | zero=>intro i _ _ _ h;omega
  | succ n ih=>
   intro i h1 h2 h3 hn;have i0:=h.i0;obtain ⟨j,rfl⟩:=Int.eq_ofNat_of_zero_le (Int.le_trans i0 h1);have fin:Wp (gd (decide (0<=p.i/\p.i<=(j:Int)/\(j:Int)<=Int.ofNat p.s.length)) (some (AV.str (List.drop (Int.toNat p.i) (List.take (Int.toNat (j:Int)) p.s)),[(0,HO.cells false [.str p.s,.int .i64 (j:Int),.int .i64 p.dp,.int .i64 p.n,AV.sym 0,.int .i64 p.e,.int .i64 p.fa])],[(0,VI.vec 6 p.l)]))) fun v=>∃t q,v=outS (.str t) q/\Inv q/\Stp 0 p q/\(t.length:Int)<=m:=by
    refine Wp.gd ⟨i0,h1,h2⟩ (Wp.mk ⟨_,{ p with i:=(j:Int) },rfl,(mv h h1 h2).1,(mv h h1 h2).2,?_⟩)
    rw [List.length_drop,List.length_take];have e:Int.toNat (j:Int)=j:=rfl;rw [e];omega
   rw [zB8];refine Wp.lt (i:=j) (fun hlt=>Wp.ite (fun hm=>?_) fun _=>fin) fun _=>fin
   show Wp (bd (ixN p.s (Int.ofNat j)) _) _
   rw [zC7 hlt];rw [zc (by omega) (by omega)] at hm
   refine wk_b (zV2 _) fun b _=>Wp.if (fun _=>?_) fun _=>fin
   rw [zB7,zc (by omega) (by omega)]
   exact ih _ (by omega) (by omega) (by omega) (by omega)
 rw [zCB];exact loop _ _ (Int.le_refl _) h.i1 (by omega) (by have:=h.i0;have:=zv (n:=1025) (by omega);omega)
theorem zPD (m:Int) (m0:0<=m) (m1:m<=1000) (p:PS) (h:Inv p):Wp (zAR m p.s p.i p.dp p.n p.e p.fa p.l) fun v=>∃t q,v=outS (.str t) q/\Inv q/\Stp 0 p q/\(t.length:Int)<=m:=by
 have big:=h.big;have loop:∀(n:Nat) (i:Int),p.i<=i->i<=p.s.length->i-p.i<=m->p.s.length-i<n->Wp (zX n m p.i p.s i p.dp p.n p.e p.fa p.l) fun v=>∃t q,v=outS (.str t) q/\Inv q/\Stp 0 p q/\(t.length:Int)<=m:=by
  intro n
  induction n with
  | zero=>intro i _ _ _ h;omega
  | succ n ih=>
   intro i h1 h2 h3 hn;have i0:=h.i0;obtain ⟨j,rfl⟩:=Int.eq_ofNat_of_zero_le (Int.le_trans i0 h1);have fin:Wp (gd (decide (0<=p.i/\p.i<=(j:Int)/\(j:Int)<=Int.ofNat p.s.length)) (some (AV.str (List.drop (Int.toNat p.i) (List.take (Int.toNat (j:Int)) p.s)),[(0,HO.cells false [.str p.s,.int .i64 (j:Int),.int .i64 p.dp,.int .i64 p.n,AV.sym 0,.int .i64 p.e,.int .i64 p.fa])],[(0,VI.vec 6 p.l)]))) fun v=>∃t q,v=outS (.str t) q/\Inv q/\Stp 0 p q/\(t.length:Int)<=m:=by
    refine Wp.gd ⟨i0,h1,h2⟩ (Wp.mk ⟨_,{ p with i:=(j:Int) },rfl,(mv h h1 h2).1,(mv h h1 h2).2,?_⟩)
    rw [List.length_drop,List.length_take];have e:Int.toNat (j:Int)=j:=rfl;rw [e];omega
   rw [zDr];refine Wp.lt (i:=j) (fun hlt=>Wp.ite (fun hm=>?_) fun _=>fin) fun _=>fin
   show Wp (bd (ixN p.s (Int.ofNat j)) _) _
   rw [zC7 hlt];rw [zc (by omega) (by omega)] at hm
   refine wk_b (zET _) fun b _=>Wp.if (fun _=>?_) fun _=>fin
   rw [zDq,zc (by omega) (by omega)]
   exact ih _ (by omega) (by omega) (by omega) (by omega)
 rw [zD1];exact loop _ _ (Int.le_refl _) h.i1 (by omega) (by have:=h.i0;have:=zv (n:=1025) (by omega);omega)
theorem zO3 (m:Int) (m0:0<=m) (m1:m<=1000) (p:PS) (h:Inv p):Wp (zAW m p.s p.i p.dp p.n p.e p.fa p.l) fun v=>∃t q,v=outS (.str t) q/\Inv q/\Stp 0 p q/\(t.length:Int)<=m:=by
 have big:=h.big;have loop:∀(n:Nat) (i:Int),p.i<=i->i<=p.s.length->i-p.i<=m->p.s.length-i<n->Wp (z4 n m p.i p.s i p.dp p.n p.e p.fa p.l) fun v=>∃t q,v=outS (.str t) q/\Inv q/\Stp 0 p q/\(t.length:Int)<=m:=by
  intro n
  induction n with
  | zero=>intro i _ _ _ h;omega
  | succ n ih=>
   intro i h1 h2 h3 hn;have i0:=h.i0;obtain ⟨j,rfl⟩:=Int.eq_ofNat_of_zero_le (Int.le_trans i0 h1);have fin:Wp (gd (decide (0<=p.i/\p.i<=(j:Int)/\(j:Int)<=Int.ofNat p.s.length)) (some (AV.str (List.drop (Int.toNat p.i) (List.take (Int.toNat (j:Int)) p.s)),[(0,HO.cells false [.str p.s,.int .i64 (j:Int),.int .i64 p.dp,.int .i64 p.n,AV.sym 0,.int .i64 p.e,.int .i64 p.fa])],[(0,VI.vec 6 p.l)]))) fun v=>∃t q,v=outS (.str t) q/\Inv q/\Stp 0 p q/\(t.length:Int)<=m:=by
    refine Wp.gd ⟨i0,h1,h2⟩ (Wp.mk ⟨_,{ p with i:=(j:Int) },rfl,(mv h h1 h2).1,(mv h h1 h2).2,?_⟩)
    rw [List.length_drop,List.length_take];have e:Int.toNat (j:Int)=j:=rfl;rw [e];omega
   rw [zDz];refine Wp.lt (i:=j) (fun hlt=>Wp.ite (fun hm=>?_) fun _=>fin) fun _=>fin
   show Wp (bd (ixN p.s (Int.ofNat j)) _) _
   rw [zC7 hlt];rw [zc (by omega) (by omega)] at hm
   refine wk_b (zU4 _) fun b _=>Wp.if (fun _=>?_) fun _=>fin
   rw [zDy,zc (by omega) (by omega)]
   exact ih _ (by omega) (by omega) (by omega) (by omega)
 rw [zEd];exact loop _ _ (Int.le_refl _) h.i1 (by omega) (by have:=h.i0;have:=zv (n:=1025) (by omega);omega)
end Go.Proofs.YthiefohjkbdjeaaGreatDoor.scoreTurned
namespace Go.Proofs.YthiefohjkbdjeaaGreatDoor.scoreTurned
open Go Go.Sy
theorem zGO (s:List Nat) (h:s.length<=1000):Wp (zBd s) fun v=>∃n,v=.int .i64 n/\(-9223372036854775808<=n/\n<=9223372036854775807):=by
 rw [zKP];obtain ⟨n,v,e,h0,h1⟩:=zOY s h;exact zUW e (Wp.mk ⟨n,rfl,h0,h1⟩)
theorem zP5 (p:PS) (h:Inv p):Wp (zBL p.s p.i p.dp p.n p.e p.fa p.l) fun v=>∃t q,v=outS (.str t) q/\Inv q/\Stp 0 p q/\t.length<=32:=by
 rw [zHe];refine wdU (zC8 p h) fun q hq=>wdS (zPD (Int.ofNat 32) (by decide) (by decide) q hq.1) fun t r hr=>?_
 have hl:t.length<=32:=by have:=hr.2.2;rw [Int.ofNat_eq_natCast] at this;omega
 refine Wp.if (fun _=>wdU (zBU _ _ (by decide) r hr.1.z) fun u hu=>Wp.mk ⟨t,u,rfl,hu.1,?_,hl⟩) fun _=>Wp.mk ⟨t,r,rfl,hr.1,hq.2.1.trans0 hr.2.1,hl⟩
 have:=hq.2.1.trans0 hr.2.1;exact .bad (hu.2.1.trans this.s) (by rw [hu.2.2.1];exact this.i) hu.2.2.2
theorem zNa (p:PS) (h:Inv p):Wp (zBl p.s p.i p.dp p.n p.e p.fa p.l) fun v=>∃x q,v=outS (.int .i64 x) q/\Inv q/\Stp 0 p q/\(-9223372036854775808<=x/\x<=9223372036854775807):=by
 rw [zGp];refine wdU (zC8 p h) fun q hq=>wdS (zO3 (Int.ofNat 12) (by decide) (by decide) q hq.1) fun t r hr=>?_
 have hl:t.length<=1000:=by have:=hr.2.2;rw [Int.ofNat_eq_natCast] at this;omega
 refine Wp.if (fun _=>wdU (zBU _ _ (by decide) r hr.1.z) fun u hu=>wk_i (zGO t hl) fun x hx=>Wp.mk ⟨x,u,rfl,hu.1,?_,hx⟩) fun _=>wk_i (zGO t hl) fun x hx=>Wp.mk ⟨x,r,rfl,hr.1,hq.2.1.trans0 hr.2.1,hx⟩
 have:=hq.2.1.trans0 hr.2.1;exact .bad (hu.2.1.trans this.s) (by rw [hu.2.2.1];exact this.i) hu.2.2.2
def Post (p:PS) (v:AV×Heap×Vecs):Prop:=∃x q,v=outS (.int .i64 x) q/\Inv q/\Stp 0 p q/\Res p q x
theorem Post.bad {p q:PS} (hi:Inv q) (hs:q.s=p.s) (hle:p.i<=q.i) (hn:¬q.nf) (x:Int):Post p (outS (.int .i64 x) q):=⟨x,q,rfl,hi,.bad hs hle hn,fun h=>absurd h hn⟩
theorem Res.of {a:Int} {p q r:PS} {x:Int} (h:Stp a p q) (k:Res q r x) (hs:Stp (-1) q r):Res p r x:=fun hr=>by
 obtain ⟨k1,k2⟩:=k hr;have:=(h.nf (hs.nf hr).1).2.2.2;exact ⟨k1,by omega⟩
theorem zMw (p q:PS) (hp:Inv p) (hq:Inv q) (h:Stp 1 p q) (k:Int) (s t:List Nat) (n a b:Int) (hw:q.nf->WFn q.l.length (nd6 k s t n a b)):Wp (zR k s t n a b q.s q.i q.dp q.n q.e q.fa q.l) (Post p):=by
 refine (zP4 q hq k s t n a b (fun hn=>?_) hw).mono fun v hv=>?_
 ·obtain ⟨p1,p2,p3,p4⟩:=h.nf hn;have:=(hp.ok p1).2.2.1;omega
 ·obtain ⟨x,r,rfl,h1,h2,h3⟩:=hv;exact ⟨x,r,rfl,h1,h.trans h2,Res.of h h3 h2⟩
theorem WFn.leaf {j:Nat} {k n:Int} {s t:List Nat} (hn:-9223372036854775808<=n/\n<=9223372036854775807) (hs:s.length<=24) (ht:t.length<=32) (h:k<=6):WFn j (nd6 k s t n (Int.negSucc 0) (Int.negSucc 0)):=⟨k,s,t,n,_,_,rfl,hn,hs,ht,fun e=>by omega,fun e=>by omega⟩
theorem zFN (p q:PS) (hp:Inv p) (hq:Inv q) (h:Stp 1 p q) (k:Int) (s t:List Nat) (n:Int) (hn:-9223372036854775808<=n/\n<=9223372036854775807) (hs:s.length<=24) (ht:t.length<=32) (hk:k<=6):Wp (zN q.s q.i q.dp q.n q.e q.fa k s t n (Int.negSucc 0) (Int.negSucc 0) q.l) (Post p):=by
 rw [zF9];refine wdI (R:=fun x r=>Inv r/\Stp 0 p r/\Res p r x) ((zMw p q hp hq h k s t n _ _ fun _=>WFn.leaf hn hs ht hk).mono fun v hv=>?_) fun x r hr=>Wp.mk ⟨x,r,rfl,hr⟩
 obtain ⟨x,r,rfl,hr⟩:=hv;exact ⟨x,r,rfl,hr⟩
theorem zMx (p q:PS) (hp:Inv p) (hq:Inv q) (h:Stp 1 p q) (b:Bool) (k:Int) (s t:List Nat) (n:Int) (hn:-9223372036854775808<=n/\n<=9223372036854775807) (hs:s.length<=24) (ht:t.length<=32) (hk:k<=6):Wp (zAw b q.s q.i q.dp q.n q.e q.fa k s t n (Int.negSucc 0) (Int.negSucc 0) q.l) (Post p):=by
 rw [zGa];refine Wp.if (fun _=>wdU (zBU _ _ (by decide) q hq.z) fun r hr=>zFN p r hp hr.1 (.bad (hr.2.1.trans h.s) (by rw [hr.2.2.1];exact h.i) hr.2.2.2) k s t n hn hs ht hk) fun _=>zFN p q hp hq h k s t n hn hs ht hk
theorem z64:(-9223372036854775808:Int)<=Int.ofNat 0/\Int.ofNat 0<=(9223372036854775807:Int):=by decide
theorem zU5 (p q:PS) (hp:Inv p) (hq:Inv q) (h:Stp 0 p q) (i:Int) (s:List Nat) (hs:s.length<=24):Wp (zB9 i s q.s q.i q.dp q.n q.e q.fa q.l) (Post p):=by
 rw [zGb];refine wdU (zF7 i q hq) fun r hr=>?_
 have st:Stp 1 p r:=h.trans0 hr.2.1;have nx:∀{u v:PS},Stp 1 p u->Stp 0 u v->Stp 1 p v:=fun a b=>a.trans b
 refine wdB (zDN r hr.1 _ (by decide)) fun b u hu=>Wp.if (fun _=>wdS (zP5 u hu.1) fun t v hv=>zFN p v hp hv.1 (nx (nx st hu.2.1) hv.2.1) _ s t _ z64 hs hv.2.2 (by decide)) fun _=>?_
 have st:=nx st hu.2.1;refine wdB (zDN u hu.1 _ (by decide)) fun b r hr=>Wp.if (fun _=>wdI (zNa r hr.1) fun t v hv=>zFN p v hp hv.1 (nx (nx st hr.2.1) hv.2.1) _ s [] _ hv.2.2 hs (by decide) (by decide)) fun _=>?_
 have st:=nx st hr.2.1;refine wdB (zDN r hr.1 _ (by decide)) fun b u hu=>Wp.if (fun _=>wdI (zNa u hu.1) fun t v hv=>zFN p v hp hv.1 (nx (nx st hu.2.1) hv.2.1) _ s [] _ hv.2.2 hs (by decide) (by decide)) fun _=>?_
 have st:=nx st hu.2.1;refine wdB (zDN u hu.1 _ (by decide)) fun b r hr=>Wp.if (fun _=>wdS (zP5 r hr.1) fun t v hv=>zFN p v hp hv.1 (nx (nx st hr.2.1) hv.2.1) _ s t _ z64 hs hv.2.2 (by decide)) fun _=>?_
 have st:=nx st hr.2.1;refine wdB (zDN r hr.1 _ (by decide)) fun b u hu=>Wp.if (fun _=>zMx p u hp hu.1 (nx st hu.2.1) _ _ s [] _ z64 hs (by decide) (by decide)) fun _=>?_
 have st:=nx st hu.2.1;refine wdB (zDN u hu.1 _ (by decide)) fun b r hr=>Wp.if (fun _=>zMx p r hp hr.1 (nx st hr.2.1) _ _ s [] _ z64 hs (by decide) (by decide)) fun _=>?_
 have st:=nx st hr.2.1;exact wdB (zDN r hr.1 _ (by decide)) fun b u hu=>zMx p u hp hu.1 (nx st hu.2.1) _ _ s [] _ z64 hs (by decide) (by decide)
theorem zP6 (p q:PS) (hp:Inv p) (hq:Inv q) (h:Stp 0 p q) (i:Int) (s:List Nat) (b:Bool) (hs:s.length<=24):Wp (zA7 i s b q.s q.i q.dp q.n q.e q.fa q.l) (Post p):=by
 rw [zGc];exact Wp.if (fun _=>wdU (zBU _ _ (by decide) q hq.z) fun r hr=>Wp.mk (.bad hr.1 (hr.2.1.trans h.s) (by rw [hr.2.2.1];exact h.i) hr.2.2.2 _)) fun _=>zU5 p q hp hq h i s hs
theorem zU6 (p q:PS) (hp:Inv p) (hq:Inv q) (h:Stp 0 p q) (i:Int) (s:List Nat) (hs:s.length<=24):Wp (zCa i s q.s q.i q.dp q.n q.e q.fa q.l) (Post p):=by
 rw [zGd];refine Wp.ite (fun hlt=>?_) fun _=>zP6 p q hp hq h i s _ hs
 obtain ⟨x,hx,_⟩:=zOS hq.i0 hlt;rw [hx];exact wk_b (zET x) fun b _=>zP6 p q hp hq h i s _ hs
theorem zMy (p q:PS) (hp:Inv p) (hq:Inv q) (h:Stp 0 p q) (i:Int) (s:List Nat) (b:Bool) (hs:s.length<=24):Wp (zAx i s b q.s q.i q.dp q.n q.e q.fa q.l) (Post p):=by
 rw [zGe];refine Wp.if (fun _=>wdU (zF7 i q hq) fun r hr=>wdI (R:=fun x r=>Inv r/\Stp 0 p r/\Res p r x) ((zMw p r hp hr.1 (h.trans0 hr.2.1) _ _ _ _ _ _ fun _=>WFn.leaf z64 (by decide) (by decide) (by decide)).mono fun v hv=>?_) fun x r hr=>Wp.mk ⟨x,r,rfl,hr⟩) fun _=>zU6 p q hp hq h i s hs
 obtain ⟨x,r,rfl,hr⟩:=hv;exact ⟨x,r,rfl,hr⟩
theorem zU7 (p:PS) (hp:Inv p) (i:Int):Wp (zCb i p.s p.i p.dp p.n p.e p.fa p.l) (Post p):=by
 rw [zGf];refine wdS (zPC (Int.ofNat 24) (by decide) (by decide) p hp) fun t q hq=>?_
 have hl:t.length<=24:=by have:=hq.2.2;rw [Int.ofNat_eq_natCast] at this;omega
 refine Wp.if (fun _=>Wp.ite (fun hlt=>?_) fun _=>zMy p q hp hq.1 hq.2.1 i t _ hl) fun _=>zMy p q hp hq.1 hq.2.1 i t _ hl
 obtain ⟨x,hx,_⟩:=zOS hq.1.i0 hlt;rw [hx];exact wk_b (zET x) fun b _=>zMy p q hp hq.1 hq.2.1 i t _ hl
theorem zMz (p:PS) (hp:Inv p) (i:Int) (b:Bool):Wp (zAy i b p.s p.i p.dp p.n p.e p.fa p.l) (Post p):=by
 rw [zGg];exact Wp.if (fun _=>wdU (zBU _ _ (by decide) p hp.z) fun r hr=>Wp.mk (.bad hr.1 hr.2.1 (by rw [hr.2.2.1];exact Int.le_refl _) hr.2.2.2 _)) fun _=>zU7 p hp i
theorem zU8 (p:PS) (hp:Inv p):Wp (zDa p.s p.i p.dp p.n p.e p.fa p.l) (Post p):=by
 rw [zHf];refine Wp.if (fun _=>zMz p hp _ _) fun hne=>?_
 have hlt:p.i<Int.ofNat p.s.length:=by
  have h1:=hp.i1;have h2:¬p.i=Int.ofNat p.s.length:=by simpa using hne
  rw [Int.ofNat_eq_natCast] at h2 ⊢;omega
 obtain ⟨x,hx,_⟩:=zOS hp.i0 hlt;rw [hx];exact Wp.if (fun _=>zMz p hp _ _) fun _=>zMz p hp _ _
end Go.Proofs.YthiefohjkbdjeaaGreatDoor.scoreTurned
namespace Go.Proofs.YthiefohjkbdjeaaGreatDoor.scoreTurned
open Go Go.Sy
noncomputable def PS.m (p:PS):Nat:=(Classical.propDecidable p.nf).casesOn (fun _=>0) fun _=>(33-p.dp).toNat
theorem m_nf {p:PS} (h:p.nf):p.m=(33-p.dp).toNat:=by
 unfold PS.m;cases Classical.propDecidable p.nf with
 | isTrue _=>rfl
 | isFalse h'=>exact absurd h h'
theorem zTX {p:PS} (h:¬p.nf):p.m=0:=by
 unfold PS.m;cases Classical.propDecidable p.nf with
 | isTrue h'=>exact absurd h' h
 | isFalse h'=>rfl
theorem Stp.m {k:Int} {p q:PS} (h:Stp k p q):q.m<=p.m:=by
 by_cases hn:q.nf
 ·obtain ⟨h1,h2,_⟩:=h.nf hn;rw [m_nf hn,m_nf h1,h2];exact Nat.le_refl _
 ·rw [zTX hn];exact Nat.zero_le _
theorem Stp.m0 {k:Int} {p q:PS} (h:Stp k p q) (hp:Inv p) {b:Bool} {r:PS} (hi:In b q r):5*r.m+5<=5*p.m\/¬p.nf:=by
 by_cases hn:r.nf
 ·obtain ⟨_,h1,h2,_⟩:=hi.nf hn;obtain ⟨h3,h4,_⟩:=h.nf h1;have:=hp.ok h3;rw [m_nf hn,m_nf h3]
  left
  omega
 ·by_cases hp':p.nf
  ·rw [zTX hn,m_nf hp'];have:=hp.ok hp'
   left
   omega
  ·exact .inr hp'
def SpN (d:Nat):Prop:=∀p,Inv p->5*p.m+1<=d->Wp (zBh d p.s p.i p.dp p.n p.e p.fa p.l) (Post p)
def SpPN (d:Nat):Prop:=∀p (t:List Nat) (k:Int),Inv p->5*p.m+2<=d->1<=t.length->t.length<=2->k=8\/k=9->Wp (zAh d t k p.s p.i p.dp p.n p.e p.fa p.l) (Post p)
def SpA (d:Nat):Prop:=∀p,Inv p->5*p.m+3<=d->Wp (zBY d p.s p.i p.dp p.n p.e p.fa p.l) (Post p)
def SpPA (d:Nat):Prop:=∀p (t:List Nat) (k:Int),Inv p->5*p.m+4<=d->1<=t.length->t.length<=2->k=8\/k=9->Wp (zAg d t k p.s p.i p.dp p.n p.e p.fa p.l) (Post p)
def SpO (d:Nat):Prop:=∀p,Inv p->5*p.m+5<=d->Wp (zCq d p.s p.i p.dp p.n p.e p.fa p.l) (Post p)
theorem Post.out {p:PS} {o:Option (AV×Heap×Vecs)} (h:Wp o (Post p)):Wp o fun v=>∃x q,v=outS (.int .i64 x) q/\(Inv q/\Stp 0 p q/\Res p q x):=h
theorem WFn.two {p q r:PS} {k x y:Int} (hk:k=8\/k=9) (hx:q.nf->x=(q.l.length:Int)-1/\p.l.length<q.l.length) (hy:r.nf->y=(r.l.length:Int)-1/\q.l.length<r.l.length) (h:r.nf->q.nf) (hr:r.nf):WFn r.l.length (nd6 k [] [] (Int.ofNat 0) x y):=by
 obtain ⟨x1,x2⟩:=hx (h hr);obtain ⟨y1,y2⟩:=hy hr;refine ⟨k,[],[],_,_,_,rfl,z64,by decide,by decide,fun e=>by omega,fun _=>⟨q.l.length-1,r.l.length-1,?_,?_,by omega,by omega⟩⟩
 ·rw [Int.ofNat_eq_natCast];omega
 ·rw [Int.ofNat_eq_natCast];omega
theorem zO4 (p q:PS) (hp:Inv p) (hq:Inv q) (h:Stp 1 p q) (k:Int) (s t:List Nat) (n a b:Int) (hw:q.nf->WFn q.l.length (nd6 k s t n a b)):Wp (zR k s t n a b q.s q.i q.dp q.n q.e q.fa q.l) fun v=>∃x r,v=outS (.int .i64 x) r/\(Inv r/\Stp 0 p r/\Res p r x)/\Stp (-1) q r:=by
 refine (zP4 q hq k s t n a b (fun hn=>?_) hw).mono fun v hv=>?_
 ·obtain ⟨p1,p2,p3,p4⟩:=h.nf hn;have:=(hp.ok p1).2.2.1;omega
 ·obtain ⟨x,r,rfl,h1,h2,h3⟩:=hv;exact ⟨x,r,rfl,⟨h1,h.trans h2,Res.of h h3 h2⟩,h2⟩
theorem zRN {d:Nat} (hN:SpN d):SpPN (d+1):=by
 intro p t k hp hd t1 t2 hk;have loop:∀(n:Nat) (q:PS) (x:Int),Inv q->Stp 0 p q->Res p q x->q.s.length-q.i<n->Wp (zM d n t k x q.s q.i q.dp q.n q.e q.fa q.l) (Post p):=by
  intro n
  induction n with
  | zero=>intro q x hq _ _ h;have:=hq.i1;omega
  | succ n ih=>
   intro q x hq st hx hn;rw [zCf];refine Wp.if (fun _=>?_) fun _=>Wp.mk ⟨x,q,rfl,hq,st,hx⟩
   refine wdU (zC8 q hq) fun q1 h1=>wdB (zDN q1 h1.1 t t2) fun b q2 h2=>?_
   have s2:=h1.2.1.trans0 h2.2.1;have l2:q2.l=q.l:=h2.2.2.2.trans h1.2.2;have x2:Res p q2 x:=fun hn2=>by rw [l2];exact hx (s2.nf hn2).1
   refine Wp.if (fun _=>Wp.mk ⟨x,q2,rfl,h2.1,st.trans0 s2,x2⟩) fun hb=>?_
   have hb:b=true:=by simpa using hb
   have adv:=h2.2.2.1 hb;refine wdU (zF7 q1.i q2 h2.1) fun q3 h3=>?_
   have s3:=(st.trans0 s2).trans0 h3.2.1;have m3:=s3.m;refine wdI (Post.out (hN q3 h3.1 (by omega))) fun y q4 h4=>?_
   have s4:Stp 1 p q4:=s3.trans h4.2.1;refine wdI ((zO4 p q4 hp h4.1 s4 k [] [] _ x y fun h4n=>WFn.two (p:=p) (q:=q2) (r:=q4) hk x2 (fun hr=>?_) (fun hr=>(h3.2.1.nf (h4.2.1.nf hr).1).1) h4n)) fun z q5 h5=>ih q5 z h5.1.1 h5.1.2.1 h5.1.2.2 ?_
   ·have:=h4.2.2 hr;rw [h3.2.2 (h4.2.1.nf hr).1] at this;exact this
   ·have e1:=((s2.trans0 h3.2.1).trans h4.2.1).trans h5.2;have:=h1.2.1.i;have:=h3.2.1.i;have:=h4.2.1.i;have:=h5.2.i;have:q5.s.length=q.s.length:=congrArg List.length e1.s;omega
 rw [zCR];refine wdI (Post.out (hN p hp (by omega))) fun x q hq=>loop _ q x hq.1 hq.2.1 hq.2.2 ?_
 have:=hq.1.i0;have:=hq.1.big;have:=zv (n:=1025) (by omega);omega
theorem zRO {d:Nat} (hN:SpA d):SpPA (d+1):=by
 intro p t k hp hd t1 t2 hk;have loop:∀(n:Nat) (q:PS) (x:Int),Inv q->Stp 0 p q->Res p q x->q.s.length-q.i<n->Wp (zL d n t k x q.s q.i q.dp q.n q.e q.fa q.l) (Post p):=by
  intro n
  induction n with
  | zero=>intro q x hq _ _ h;have:=hq.i1;omega
  | succ n ih=>
   intro q x hq st hx hn;rw [zCe];refine Wp.if (fun _=>?_) fun _=>Wp.mk ⟨x,q,rfl,hq,st,hx⟩
   refine wdU (zC8 q hq) fun q1 h1=>wdB (zDN q1 h1.1 t t2) fun b q2 h2=>?_
   have s2:=h1.2.1.trans0 h2.2.1;have l2:q2.l=q.l:=h2.2.2.2.trans h1.2.2;have x2:Res p q2 x:=fun hn2=>by rw [l2];exact hx (s2.nf hn2).1
   refine Wp.if (fun _=>Wp.mk ⟨x,q2,rfl,h2.1,st.trans0 s2,x2⟩) fun hb=>?_
   have hb:b=true:=by simpa using hb
   have adv:=h2.2.2.1 hb;refine wdU (zF7 q1.i q2 h2.1) fun q3 h3=>?_
   have s3:=(st.trans0 s2).trans0 h3.2.1;have m3:=s3.m;refine wdI (Post.out (hN q3 h3.1 (by omega))) fun y q4 h4=>?_
   have s4:Stp 1 p q4:=s3.trans h4.2.1;refine wdI ((zO4 p q4 hp h4.1 s4 k [] [] _ x y fun h4n=>WFn.two (p:=p) (q:=q2) (r:=q4) hk x2 (fun hr=>?_) (fun hr=>(h3.2.1.nf (h4.2.1.nf hr).1).1) h4n)) fun z q5 h5=>ih q5 z h5.1.1 h5.1.2.1 h5.1.2.2 ?_
   ·have:=h4.2.2 hr;rw [h3.2.2 (h4.2.1.nf hr).1] at this;exact this
   ·have e1:=((s2.trans0 h3.2.1).trans h4.2.1).trans h5.2;have:=h1.2.1.i;have:=h3.2.1.i;have:=h4.2.1.i;have:=h5.2.i;have:q5.s.length=q.s.length:=congrArg List.length e1.s;omega
 rw [zCQ];refine wdI (Post.out (hN p hp (by omega))) fun x q hq=>loop _ q x hq.1 hq.2.1 hq.2.2 ?_
 have:=hq.1.i0;have:=hq.1.big;have:=zv (n:=1025) (by omega);omega
theorem zV3 {d:Nat} (h:SpPN d):SpA (d+1):=by
 intro p hp hd;rw [zHO];exact wdI (Post.out (h p _ _ hp (by omega) (by decide) (by decide) (.inl rfl))) fun x q hq=>Wp.mk ⟨x,q,rfl,hq⟩
theorem zWn {d:Nat} (h:SpPA d):SpO (d+1):=by
 intro p hp hd;rw [zIm];exact wdI (Post.out (h p _ _ hp (by omega) (by decide) (by decide) (.inr rfl))) fun x q hq=>Wp.mk ⟨x,q,rfl,hq⟩
theorem up {p q r u:PS} {b:Bool} {k:Int} (hq:Inv q) (h:Stp 0 p q) (hi:In b q r) (hs:Stp k r u) (hu:Inv u):Inv { u with dp:=wrapx .i64 (u.dp-1) }/\Stp k p { u with dp:=wrapx .i64 (u.dp-1) }/\(u.nf->q.l=r.l):=by
 refine ⟨⟨hu.i0,hu.i1,hu.big,fun hn=>?_⟩,⟨hs.s.trans (hi.s.trans h.s),?_,fun hn=>?_⟩,fun hn=>(hi.nf (hs.nf hn).1).2.2.2.2.symm⟩
 ·have hn:u.nf:=hn;obtain ⟨d0,d1,x⟩:=hu.ok hn;obtain ⟨e1,e2,_⟩:=hs.nf hn;obtain ⟨_,f1,f2,_⟩:=hi.nf e1;have:=(hq.ok f1).1;refine ⟨?_,?_,x⟩
  ·show 0<=wrapx .i64 (u.dp-1)
   rw [zc (by omega) (by omega)];omega
  ·show wrapx .i64 (u.dp-1)<=32
   rw [zc (by omega) (by omega)];omega
 ·have:=hs.i;have:=hi.i;have:=h.i;show p.i<=u.i
  omega
 ·have hn:u.nf:=hn;obtain ⟨d0,d1,x⟩:=hu.ok hn;obtain ⟨e1,e2,e3,e4⟩:=hs.nf hn;obtain ⟨_,f1,f2,f3,f4⟩:=hi.nf e1;obtain ⟨g1,g2,g3,g4⟩:=h.nf f1;refine ⟨g1,?_,?_,?_⟩
  ·show wrapx .i64 (u.dp-1)=p.dp
   rw [zc (by omega) (by omega)];omega
  ·show u.n-u.l.length=_
   rw [e3,f3,f4,g3];omega
  ·show p.l.length<=u.l.length
   rw [f4] at e4;omega
theorem Res.tr {a b:Int} {p q r:PS} {x:Int} (h:Stp a p q) (k:Res q r x) (hs:Stp b q r):Res p r x:=fun hr=>by
 obtain ⟨k1,k2⟩:=k hr;have:=(h.nf (hs.nf hr).1).2.2.2;exact ⟨k1,by omega⟩
theorem Post.tr {p q:PS} (h:Stp 0 p q) {v:AV×Heap×Vecs} (k:Post q v):Post p v:=by
 obtain ⟨x,r,rfl,h1,h2,h3⟩:=k;exact ⟨x,r,rfl,h1,h.trans0 h2,Res.tr h h3 h2⟩
theorem zRP {d:Nat} (p q:PS) (x:Int) (b:Bool) (hq:Inv q) (hs:Stp 0 p q) (hr:Res p q x):Wp (zBm d x b q.s q.i q.dp q.n q.e q.fa q.l) (Post p):=by
 rw [zGq];refine Wp.if (fun _=>wdU (zBU _ _ (by decide) q hq.z) fun r h=>?_) fun _=>?_
 ·rw [zDx];exact Wp.mk (.bad h.1 (h.2.1.trans hs.s) (by rw [h.2.2.1];exact hs.i) h.2.2.2 _)
 ·rw [zDx];exact Wp.mk ⟨x,q,rfl,hq,hs,hr⟩
theorem In.i' {b:Bool} {p q r:PS} (h:Stp 0 p q) (k:In b q r):r.s=p.s/\p.i<=r.i:=⟨k.s.trans h.s,by rw [k.i];exact h.i⟩
theorem zV4 {d:Nat} (hN:SpN d) (hO:SpO d):SpN (d+1):=by
 intro p hp hd;rw [zHP];refine wdU (zC8 p hp) fun q hq=>Wp.if (fun hn=>?_) fun hn=>?_
 ·have hn:¬q.nf:=zKG hn;exact Wp.mk (.bad hq.1 hq.2.1.s hq.2.1.i hn _)
 have hn:q.nf:=zJJ hn;have pn:=(hq.2.1.nf hn).1;refine wdB (zDN q hq.1 _ (by decide)) fun b q1 h1=>?_
 have s1:=hq.2.1.trans0 h1.2.1;refine Wp.if (fun _=>?_) fun _=>?_
 ·refine wdB (zTW q.i q1 h1.1) fun b1 q2 h2=>?_
  have m2:=(s1.m0 hp h2.2).resolve_right (fun h=>h pn)
  obtain ⟨es,ei⟩:=In.i' s1 h2.2;refine Wp.if (fun hb=>Wp.mk (.bad h2.1 es ei (fun hn2=>?_) _)) fun _=>?_
  ·rw [(h2.2.nf hn2).1] at hb;cases hb
  refine wdU (zF7 q.i q2 h2.1) fun q3 h3=>?_
  have m3:=h3.2.1.m;refine wdI (Post.out (hN q3 h3.1 (by omega))) fun y q4 h4=>?_
  obtain ⟨u1,u2,_⟩:=up h1.1 s1 h2.2 (h3.2.1.trans h4.2.1) h4.1;refine wdI (Post.out (zMw p _ hp u1 u2 (Int.ofNat 7) [] [] (Int.ofNat 0) y (Int.negSucc 0) fun h4n=>?_)) fun z q5 h5=>Wp.mk ⟨z,q5,rfl,h5⟩
  obtain ⟨y1,y2⟩:=h4.2.2 h4n;refine ⟨7,[],[],_,_,_,rfl,z64,by decide,by decide,fun _=>⟨q4.l.length-1,?_,?_⟩,fun e=>by omega⟩
  ·rw [Int.ofNat_eq_natCast];omega
  ·show q4.l.length-1<q4.l.length
   omega
 ·refine wdB (zDN q1 h1.1 _ (by decide)) fun b1 q2 h2=>?_
  have s2:=s1.trans0 h2.2.1;refine Wp.if (fun _=>?_) fun _=>?_
  ·refine wdB (zTW q.i q2 h2.1) fun b2 q3 h3=>?_
   have m2:=(s2.m0 hp h3.2).resolve_right (fun h=>h pn)
   obtain ⟨es,ei⟩:=In.i' s2 h3.2;refine Wp.if (fun hb=>Wp.mk (.bad h3.1 es ei (fun hn2=>?_) _)) fun _=>?_
   ·rw [(h3.2.nf hn2).1] at hb;cases hb
   refine wdI (Post.out (hO q3 h3.1 (by omega))) fun x q4 h4=>?_
   obtain ⟨u1,u2,u3⟩:=up h2.1 s2 h3.2 h4.2.1 h4.1;have hr:Res p { q4 with dp:=wrapx .i64 (q4.dp-1) } x:=fun hn4=>by
    obtain ⟨y1,y2⟩:=h4.2.2 hn4;refine ⟨y1,?_⟩
    have e:=u3 hn4;have:=((s2.nf (h3.2.nf (h4.2.1.nf hn4).1).2.1)).2.2.2;rw [e] at this;show p.l.length<q4.l.length
    omega
   refine Wp.if (fun _=>wdB (zDN { q4 with dp:=wrapx .i64 (q4.dp-1) } u1 _ (by decide)) fun b3 q5 h5=>zRP p q5 x _ h5.1 (u2.trans0 h5.2.1) fun hn5=>?_) fun _=>zRP p { q4 with dp:=wrapx .i64 (q4.dp-1) } x _ u1 u2 hr
   rw [h5.2.2.2];exact hr (h5.2.1.nf hn5).1
  ·exact wdI (Post.out ((zU8 q2 h2.1).mono fun v hv=>Post.tr s2 hv)) fun x q3 h3=>Wp.mk ⟨x,q3,rfl,h3⟩
theorem zeros:SpN 0/\SpPN 0/\SpA 0/\SpPA 0/\SpO 0:=⟨fun p _ h=>by omega,fun p _ _ _ h=>by omega,fun p _ h=>by omega,fun p _ _ _ h=>by omega,fun p _ h=>by omega⟩
theorem zQD (d:Nat):SpN d/\SpPN d/\SpA d/\SpPA d/\SpO d:=by
 induction d with
 | zero=>exact zeros
 | succ d ih=>exact ⟨zV4 ih.1 ih.2.2.2.2,zRN ih.1,zV3 ih.2.1,zRO ih.2.2.1,zWn ih.2.2.2.1⟩
end Go.Proofs.YthiefohjkbdjeaaGreatDoor.scoreTurned
namespace Go.Proofs.YthiefohjkbdjeaaGreatDoor.scoreTurned
open Go Go.Sy
theorem TL.at {es:List AV} {L:Nat->Nat} {m j:Nat} (h:TL es L m) (hj:j<m):∃k s t n l r,ixN es (Int.ofNat j)=some (nd6 k s t n l r)/\(-9223372036854775808<=n/\n<=9223372036854775807)/\s.length+t.length+24<=L j/\L j<=topL ∧
 (k=7->∃a:Nat,l=Int.ofNat a/\a<j/\L a+3<=L j)/\(k=8\/k=9->∃a b:Nat,l=Int.ofNat a/\r=Int.ofNat b/\a<j/\b<j/\L a+L b+7<=L j):=h j hj
abbrev isT (m:Nat) (v:AV):Prop:=∃t,v=.str t/\t.length<=m
theorem zV5 {d:Nat} {es:List AV} {L:Nat->Nat} {m a:Nat} (h:TL es L m) (ha:a<m) (hd:Wp (zBV d es (Int.ofNat a)) (isT (L a))) (least:Int):Wp (zAP (d+1) (Int.ofNat a) least es) (isT (L a+2)):=by
 rw [zKM];obtain ⟨k,s,t,n,l,r,he,_,_,ht,_⟩:=h.at ha;refine wk_s hd fun u hu=>zDH he ?_
 have:∃x,zEw k=some (.int .i64 x):=by
  have:Wp (zEw k) isE:=by
   rw [zLU]
   repeat' first | refine Wp.if (fun _=>?_) (fun _=>?_) | exact Wp.mk ⟨_,rfl,trivial⟩
  obtain ⟨v,e,x,rfl,_⟩:=this;exact ⟨x,e⟩
 obtain ⟨x,hx⟩:=this;refine qk_i hx (Wp.ite (fun _=>Wp.gd ?_ (Wp.gd ?_ (Wp.mk ⟨_,rfl,?_⟩))) fun _=>Wp.mk ⟨_,rfl,by omega⟩)
 all_goals simp only [List.length_append,List.length_cons,List.length_nil]
 all_goals unfold topL at ht
 all_goals first | omega | (unfold zh;omega)
theorem zU9 {es:List AV} {L:Nat->Nat} {m:Nat} (h:TL es L m):∀(d j:Nat),2*j+1<=d->j<m->Wp (zBV d es (Int.ofNat j)) (isT (L j)):=by
 intro d
 induction d using Nat.strongRecOn with
 | _ d ih=>
  intro j hd hj;obtain ⟨k,s,t,n,l,r,he,hn,h1,ht,h7,h89⟩:=h.at hj;obtain ⟨d,rfl⟩:∃d',d=d'+1:=⟨d-1,by omega⟩
  have part:∀a:Nat,a<j->∀least:Int,Wp (zAP d (Int.ofNat a) least es) (isT (L a+2)):=fun a ha least=>by
   obtain ⟨d2,rfl⟩:∃d',d=d'+1:=⟨d-1,by omega⟩
   exact zV5 h (by omega) (ih d2 (by omega) a (by omega) (by omega)) least
  unfold topL at ht;have m0:zh=9223372036854775807:=rfl;rw [zMB];refine zDH he ?_
  refine Wp.if (fun _=>Wp.mk ⟨_,rfl,by show 3<=_;omega⟩) fun _=>?_
  refine Wp.if (fun _=>Wp.gd ?_ (Wp.gd ?_ (Wp.mk ⟨_,rfl,?_⟩))) fun _=>?_
  any_goals (simp only [List.length_append,List.length_cons,List.length_nil];omega)
  refine Wp.if (fun _=>Wp.gd ?_ (Wp.gd ?_ (Wp.mk ⟨_,rfl,?_⟩))) fun _=>?_
  any_goals (simp only [List.length_append,List.length_cons,List.length_nil];omega)
  obtain ⟨f,hf,hfl⟩:=zQC n hn.1 hn.2;refine Wp.if (fun _=>Wp.gd ?_ (qk_s hf (Wp.gd ?_ (Wp.mk ⟨_,rfl,?_⟩)))) fun _=>?_
  any_goals (simp only [List.length_append,List.length_cons,List.length_nil];omega)
  refine Wp.if (fun _=>Wp.gd ?_ (qk_s hf (Wp.gd ?_ (Wp.mk ⟨_,rfl,?_⟩)))) fun _=>?_
  any_goals (simp only [List.length_append,List.length_cons,List.length_nil];omega)
  refine Wp.if (fun hk=>?_) fun _=>?_
  ·obtain ⟨a,rfl,ha,hL⟩:=h7 (by simpa using hk)
   refine wk_s (part a ha _) fun u hu=>Wp.gd ?_ (Wp.mk ⟨_,rfl,?_⟩)
   all_goals simp only [List.length_append,List.length_cons,List.length_nil]
   all_goals omega
  refine Wp.if (fun hk=>?_) fun _=>?_
  ·obtain ⟨a,b,rfl,rfl,ha,hb,hL⟩:=h89 (.inl (by simpa using hk))
   refine wk_s (part a ha _) fun u hu=>Wp.gd ?_ (wk_s (part b hb _) fun w hw=>Wp.gd ?_ (Wp.mk ⟨_,rfl,?_⟩))
   all_goals simp only [List.length_append,List.length_cons,List.length_nil]
   all_goals omega
  refine Wp.if (fun hk=>?_) fun _=>Wp.mk ⟨_,rfl,by omega⟩
  ·obtain ⟨a,b,rfl,rfl,ha,hb,hL⟩:=h89 (.inr (by simpa using hk))
   refine wk_s (part a ha _) fun u hu=>Wp.gd ?_ (wk_s (part b hb _) fun w hw=>Wp.gd ?_ (Wp.mk ⟨_,rfl,?_⟩))
   all_goals simp only [List.length_append,List.length_cons,List.length_nil]
   all_goals omega
theorem WF.TL {l:List AV} (h:WF l) (hl:l.length<=64):TL l fbL l.length:=by
 intro j hj;obtain ⟨k,s,t,n,a,b,he,hn,hs,ht,h7,h89⟩:=h j _ (List.getElem?_eq_getElem hj);refine ⟨k,s,t,n,a,b,by rw [List.getElem?_eq_getElem hj,he],hn,by have:=zV0 j;omega,zU2 (by omega),fun e=>?_,fun e=>?_⟩
 ·obtain ⟨a',rfl,ha⟩:=h7 e;exact ⟨a',rfl,ha,zU0 ha⟩
 ·obtain ⟨a',b',rfl,rfl,ha,hb⟩:=h89 e;exact ⟨a',b',rfl,rfl,by omega,hb,zU1 ha hb⟩
theorem zNb {l:List AV} {L:Nat->Nat} (h:TL l L l.length) (h0:0<l.length) (hl:l.length<=64):Wp (zBV FUEL l (wrapx .i64 (Int.ofNat l.length-1))) fun v=>∃t,v=.str t/\True:=by
 rw [zEp h0 (by omega)]
 exact (zU9 h FUEL (l.length-1) (Nat.le_of_lt (zv (by omega))) (by omega)).mono fun v ⟨t,e,_⟩=>⟨t,e,trivial⟩
def isP (v:AV):Prop:=(∃e f,v=.tup [.agg [.nilslice],.agg [.int .i64 e,.int .i64 f]]/\¬(e=0/\f=0))\/∃l,v=.tup [.agg [.lst 6 l],.agg [.int .i64 (Int.ofNat 0),.int .i64 (Int.ofNat 0)]]/\WF l/\l.length<=64
theorem zKH (q:PS) (hq:Inv q):Wp (zBM q.s q.i q.dp q.n q.e q.fa (Int.ofNat 0) (Int.ofNat 0) q.l) isP:=by
 rw [zJe];refine Wp.if (fun hn=>?_) fun hn=>?_
 ·have hn:¬q.nf:=zKG hn;exact Wp.mk (.inl ⟨_,_,rfl,hn⟩)
 ·have hn:q.nf:=zJJ hn;obtain ⟨_,_,h1,h2,h3⟩:=hq.ok hn;exact Wp.mk (.inr ⟨_,rfl,h3,by omega⟩)
theorem zO5 (q:PS) (hq:Inv q) (h0:q.nf->0<q.l.length):Wp (zCW q.s q.i q.dp q.n q.e q.fa (Int.ofNat 0) (Int.ofNat 0) q.l) isP:=by
 rw [zJf];refine Wp.if (fun hn=>?_) fun _=>zKH q hq
 have hn:q.nf:=zLM.1 hn;obtain ⟨_,_,h1,h2,h3⟩:=hq.ok hn;have hl:q.l.length<=64:=by omega
 exact wk_s (zNb (h3.TL hl) (h0 hn) hl) fun t _=>Wp.ite (fun _=>wdU (zBU _ _ (by decide) q hq.z) fun r hr=>zKH r hr.1) fun _=>zKH q hq
theorem zQE (s:List Nat):Wp (zGh s) isP:=by
 rw [zLW];refine Wp.ite (fun _=>Wp.mk (.inl ⟨_,_,rfl,fun h=>(by cases h.1)⟩)) fun hs=>?_
 rw [Int.ofNat_eq_natCast] at hs;have hp:Inv ⟨s,Int.ofNat 0,Int.ofNat 0,Int.ofNat 0,Int.ofNat 0,Int.ofNat 0,[]⟩:=⟨Int.le_refl _,Int.natCast_nonneg _,by show s.length<=1024;omega,fun _=>⟨Int.le_refl _,(by decide:Int.ofNat 0<=32),Int.le_refl _,(by decide:Int.ofNat 0<=64),fun j v h=>by cases h⟩⟩
 have hm:5*(PS.mk s (Int.ofNat 0) (Int.ofNat 0) (Int.ofNat 0) (Int.ofNat 0) (Int.ofNat 0) []).m+5<=FUEL:=by
  rw [m_nf ⟨rfl,rfl⟩];have:FUEL=1180591620717411303424:=zG4;rw [this];exact (by decide:5*(33-Int.ofNat 0).toNat+5<=1180591620717411303424)
 refine wdI (Post.out ((zQD FUEL).2.2.2.2 _ hp hm)) fun x q hq=>wdU (zC8 q hq.1) fun r hr=>?_
 have h0:r.nf->0<r.l.length:=fun hn=>by
  have:=(hq.2.2 (hr.2.1.nf hn).1).2;rw [hr.2.2];exact this
 exact Wp.ite (fun _=>wdU (zBU _ _ (by decide) r hr.1.z) fun u hu=>zO5 u hu.1 fun hn=>absurd hn hu.2.2.2) fun _=>zO5 r hr.1 h0
end Go.Proofs.YthiefohjkbdjeaaGreatDoor.scoreTurned
namespace Go.Proofs.YthiefohjkbdjeaaGreatDoor.scoreTurned
open Go Go.Sy
def zG9 (us:List AV) (c:Nat->Int) (m:Nat):Prop:=us.length=m/\∀j,j<m->us[j]? = some (.int .i64 (c j))
theorem zJK {us:List AV} {j:Nat} {x:Int} (h:us[j]? = some (.int .i64 x)):ldE us (Int.toNat (Int.ofNat j)) 0 1 false=some (.int .i64 x):=by
 show (match us[j]? with | some e=>Go.Sy.part e.cells 0 1 false | none=>none)=_
 rw [h];rfl
theorem zG9.set {us:List AV} {c:Nat->Int} {m a:Nat} (h:zG9 us c m) (ha:a<m) (x:Int):zG9 (us.set a (.int .i64 x)) (upd c a x) m:=by
 refine ⟨by rw [List.length_set];exact h.1,fun j hj=>?_⟩
 by_cases e:j=a
 ·subst e;rw [zCA,List.getElem?_set_self (by rw [h.1];exact hj)]
 ·rw [zAE e,List.getElem?_set_ne (fun e'=>e e'.symm)]
  exact h.2 j hj
def bigK:Nat:=4000100
def Bad (c:Nat->Int) (m:Nat):Prop:=∃j,j<m/\2<=c j
structure Sh (es:List AV) (L:Nat->Nat) (c:Nat->Int) (i T:Nat):Prop where
 tl:TL es L i
 le:∀j,j<i->L j<=bigK*i
 sum:rs L c i+T<=bigK*i
 old:∀j,j<i->c j=0\/c j=1
 new:∀j,i<=j->c j=0
def Ok (es:List AV) (c:Nat->Int) (m i T:Nat) (ks:List Nat):Prop:=Bad c m\/∃L,Sh es L c i T/\(ks.map L).foldr (·+·) 0<=T
theorem Sh.take {es:List AV} {L:Nat->Nat} {c:Nat->Int} {i T a:Nat} (h:Sh es L c i T) (ha:a<i) (h0:c a=0):Sh es L (upd c a (c a+1)) i (T+L a):=by
 refine ⟨h.tl,h.le,?_,fun j hj=>?_,fun j hj=>?_⟩
 ·have:=zP3 (L:=L) h0 (show c a+1≠0 by omega) ha
  have:=h.sum;omega
 ·by_cases e:j=a
  ·subst e;rw [zCA];omega
  ·rw [zAE e];exact h.old j hj
 ·rw [zAE (by omega)];exact h.new j hj
theorem Ok.take {es:List AV} {c:Nat->Int} {m i T a:Nat} {ks:List Nat} (h:Ok es c m i T ks) (ha:a<i) (him:i<=m) (hc:∀j,0<=c j):∃T',Ok es (upd c a (c a+1)) m i T' (a::ks):=by
 rcases h with ⟨j,hj,h2⟩ | ⟨L,h,hk⟩
 ·refine ⟨0,.inl ⟨j,hj,?_⟩⟩
  by_cases e:j=a
  ·subst e;rw [zCA];omega
  ·rw [zAE e];exact h2
 ·rcases h.old a ha with h0 | h1
  ·refine ⟨T+L a,.inr ⟨L,h.take ha h0,?_⟩⟩
   show L a+(ks.map L).foldr (·+·) 0<=_
   omega
  ·exact ⟨0,.inl ⟨a,by omega,by rw [zCA];omega⟩⟩
theorem Ok.next {es:List AV} {c:Nat->Int} {m i T:Nat} {ks:List Nat} (h:Ok es c m i T ks) (him:i<m) (hi:i<64) {k:Int} {s t:List Nat} {n l r:Int} (he:es[i]? = some (nd6 k s t n l r)) (hn:-9223372036854775808<=n/\n<=9223372036854775807) (hs:s.length+t.length+24<=bigK)
  (h7:k=7->∃a:Nat,l=Int.ofNat a/\a<i/\ks=[a]) (h89:k=8\/k=9->∃a b:Nat,l=Int.ofNat a/\r=Int.ofNat b/\a<i/\b<i/\ks=[b,a]):Ok es c m (i+1) 0 []:=by
 rcases h with hb | ⟨L,h,hk⟩
 ·exact .inl hb
 ·refine .inr ⟨upd L i (T+bigK),⟨fun j hj=>?_,fun j hj=>?_,?_,fun j hj=>?_,fun j hj=>h.new j (by omega)⟩,Nat.le_refl _⟩
  ·by_cases e:j=i
   ·subst e;have hT:T<=bigK*j:=by have:=h.sum;omega
    refine ⟨k,s,t,n,l,r,he,hn,by rw [zCA];omega,by rw [zCA];unfold bigK topL at *;omega,fun e=>?_,fun e=>?_⟩
    ·obtain ⟨a,rfl,ha,rfl⟩:=h7 e;have hk:L a+0<=T:=hk;exact ⟨a,rfl,ha,by rw [zCA,zAE (by omega)];unfold bigK;omega⟩
    ·obtain ⟨a,b,rfl,rfl,ha,hb,rfl⟩:=h89 e;have hk:L b+(L a+0)<=T:=hk;exact ⟨a,b,rfl,rfl,ha,hb,by rw [zCA,zAE (by omega),zAE (by omega)];unfold bigK;omega⟩
   ·obtain ⟨k',s',t',n',l',r',q1,q2,q3,q4,q5,q6⟩:=h.tl j (by omega)
    refine ⟨k',s',t',n',l',r',q1,q2,by rw [zAE e];exact q3,by rw [zAE e];exact q4,fun e'=>?_,fun e'=>?_⟩
    ·obtain ⟨a,rfl,ha,hL⟩:=q5 e';exact ⟨a,rfl,ha,by rw [zAE e,zAE (by omega)];exact hL⟩
    ·obtain ⟨a,b,rfl,rfl,ha,hb,hL⟩:=q6 e';exact ⟨a,b,rfl,rfl,ha,hb,by rw [zAE e,zAE (by omega),zAE (by omega)];exact hL⟩
  ·by_cases e:j=i
   ·subst e;rw [zCA];have:=h.sum;rw [Nat.mul_add];omega
   ·rw [zAE e];have:=h.le j (by omega);rw [Nat.mul_add];omega
  ·rw [rs,zKF (L':=L) (c':=c) (fun j hj=>zAE (by omega)) fun _ _=>rfl,zCA,if_pos (h.new i (Nat.le_refl _)),Nat.mul_add]
   have:=h.sum;omega
  ·by_cases e:j=i
   ·subst e;exact .inl (h.new j (Nat.le_refl _))
   ·exact h.old j (by omega)
abbrev isSh (es:List AV) (v:AV):Prop:=∃b,v=.bool b/\(b=true->0<es.length/\es.length<=64/\∃L,TL es L es.length)
theorem zCm {es:List AV}:isSh es (.bool false):=⟨false,rfl,fun h=>by cases h⟩
theorem zQF (es us:List AV) (c:Nat->Int) (hu:zG9 us c es.length) (h0:0<es.length) (h64:es.length<=64) (hok:Ok es c es.length es.length 0 []):∀(n i:Nat),i<=es.length->es.length-i<n->(∀j,j<i->j<es.length-1->c j=1)->Wp (zBf n es (Int.ofNat us.length) (Int.ofNat i) us) (isSh es):=by
 intro n
 induction n with
 | zero=>intro i _ h;omega
 | succ n ih=>
  intro i hi hn hj;have hul:=hu.1;rw [zHM,hu.1];have hlast:wrapx .i64 (Int.ofNat es.length-1)=Int.ofNat (es.length-1):=zEp h0 (by omega)
  refine Wp.lt (fun hlt=>?_) fun hge=>?_
  ·refine zFC hlt (qk_i (zJK (hu.2 i hlt)) ?_)
   rw [hlast,zp (by omega),←hu.1]
   refine Wp.lt (fun hl=>Wp.if (fun _=>Wp.mk zCm) fun h1=>ih (i+1) hlt (by omega) fun j h2 h3=>?_) fun hl=>ih (i+1) hlt (by omega) fun j h2 h3=>?_
   ·by_cases e:j=i
    ·subst e;simpa using h1
    ·exact hj j (by omega) h3
   ·exact hj j (by omega) h3
  ·rw [hlast];refine zFC (by omega) (qk_i (zJK (hu.2 _ (by omega))) (Wp.mk ⟨_,rfl,fun hb=>⟨h0,h64,?_⟩⟩))
   have hb:c (es.length-1)=0:=by simpa using hb
   rcases hok with ⟨j,hjl,h2⟩ | ⟨L,h,_⟩
   ·by_cases e:j<es.length-1
    ·have:=hj j (by omega) e;omega
    ·have:j=es.length-1:=by omega
     subst this;omega
   ·exact ⟨L,h.tl⟩
end Go.Proofs.YthiefohjkbdjeaaGreatDoor.scoreTurned
namespace Go.Proofs.YthiefohjkbdjeaaGreatDoor.scoreTurned
open Go Go.Sy
theorem zGP {es us parts:List AV} {n27 n i x:Nat} {c:Nat->Int} {k:Int} {P:AV->Prop} (hu:zG9 us c es.length) (hc:∀j,0<=c j/\c j<=1000) (hx:parts[x]? = some (.int .i64 k)) (hx2:x<5) (hi:i<=es.length) (t23 t24:Int) (t22:List AV) (hf:P (.bool false))
  (h:∀a:Nat,k=Int.ofNat a->a<i->Wp (zAL n27 n es (Int.ofNat i) t22 t23 t24 (Int.ofNat parts.length) (Int.ofNat (x+1)) (us.set a (.int .i64 (c a+1))) parts) P):Wp (zAL n27 (n+1) es (Int.ofNat i) t22 t23 t24 (Int.ofNat parts.length) (Int.ofNat x) us parts) P:=by
 have hlt:x<parts.length:=(List.getElem?_eq_some_iff.1 hx).1;rw [zEv];refine Wp.lt (fun _=>zFC hlt (qk_i (zJK hx) (Wp.ite (fun _=>Wp.mk hf) fun h0=>Wp.ite (fun _=>Wp.mk hf) fun h1=>?_))) fun hge=>absurd hlt (by omega)
 obtain ⟨a,rfl⟩:=Int.eq_ofNat_of_zero_le (show 0<=k by omega)
 have ha:a<i:=by rw [Int.ofNat_eq_natCast] at h1;omega
 have hal:a<us.length:=by rw [hu.1];omega
 have hca:=hc a;refine zFC hal (qk_i (zJK (hu.2 a (by omega))) (zFC hal ?_))
 rw [zp (by omega),zc (by omega) (by omega)]
 exact h a rfl ha
theorem zHL {es us parts:List AV} {n27 n i x:Nat} {P:AV->Prop} (hx:x=parts.length) (hi:i<1000) (t22:List AV) (t23:Int) (h:Wp (zBg n27 es t22 t23 (Int.ofNat (i+1)) us) P):Wp (zAL n27 (n+1) es (Int.ofNat i) t22 t23 (Int.ofNat i) (Int.ofNat parts.length) (Int.ofNat x) us parts) P:=by
 rw [zEv];refine Wp.lt (fun h=>absurd h (by omega)) fun _=>?_
 rw [zp (by omega)]
 exact h
theorem zQG:FUEL=1180591620717411303421+1+1+1:=zG4
theorem zO6 {c:Nat->Int} {a n:Nat} (hc:∀j,0<=c j/\c j<=(n:Int)) (j:Nat):0<=upd c a (c a+1) j/\upd c a (c a+1) j<=((n+1:Nat):Int):=by
 by_cases e:j=a
 ·subst e;rw [zCA];have:=hc j;omega
 ·rw [zAE e];have:=hc j;omega
theorem zPE (es:List AV) (h:Nds es):Wp (zFb es) (isSh es):=by
 rw [zKL];refine Wp.ite (fun _=>Wp.mk zCm) fun h0=>Wp.ite (fun _=>Wp.mk zCm) fun h64=>?_
 rw [Int.ofNat_eq_natCast] at h0 h64;have h0:0<es.length:=by omega
 have h64:es.length<=64:=by omega
 have loop:∀(n i:Nat) (us:List AV) (c:Nat->Int),i<=es.length->es.length-i<n->zG9 us c es.length->(∀j,0<=c j/\c j<=((2*i:Nat):Int))->Ok es c es.length i 0 []->Wp (zBg n es es (Int.ofNat es.length) (Int.ofNat i) us) (isSh es):=by
  intro n
  induction n with
  | zero=>intro i us c _ h;omega
  | succ n ih=>
   intro i us c hi hn hu hc hok;have hc1:∀j,0<=c j/\c j<=1000:=fun j=>by have:=hc j;omega
   have hc2:∀j,0<=c j/\c j<=((2*(i+1):Nat):Int):=fun j=>by have:=hc j;omega
   rw [zHN];refine Wp.lt (fun hlt=>?_) fun hge=>?_
   ·obtain ⟨k,s,t,nn,l,r,he,n0,n1,hs,ht⟩:=h.1 _ (List.getElem_mem hlt);have he':es[i]? = some (nd6 k s t nn l r):=by rw [List.getElem?_eq_getElem hlt,he]
    have hst:s.length+t.length+24<=bigK:=by unfold bigK;omega
    refine zDH ((zC7 hlt).trans (congrArg some he)) ?_
    have next0:∀parts,parts=[]->¬k=7->¬(k=8\/k=9)->Wp (zAV n es (Int.ofNat i) es (Int.ofNat es.length) (Int.ofNat i) us parts) (isSh es):=fun parts hp h7 h8=>by
     subst hp;rw [zCO,zQG];exact zHL rfl (by omega) _ _ (ih (i+1) us c hlt (by omega) hu hc2 (hok.next hlt (by omega) he' ⟨n0,n1⟩ hst (fun e=>absurd e h7) fun e=>absurd e h8))
    refine Wp.if (fun hk=>?_) fun hk7=>?_
    ·have hk:k=7:=by simpa using hk
     refine Wp.if (fun _=>Wp.mk zCm) fun _=>?_
     rw [zCO,zQG];refine zGP (parts:=[.int .i64 l]) (x:=0) hu hc1 rfl (by omega) hi _ _ _ zCm fun a ha hai=>?_
     obtain ⟨T,ok1⟩:=hok.take hai hi fun j=>(hc j).1
     refine zHL rfl (by omega) _ _ (ih (i+1) _ (upd c a (c a+1)) hlt (by omega) (hu.set (by omega) _) (fun j=>?_) (ok1.next hlt (by omega) he' ⟨n0,n1⟩ hst (fun _=>⟨a,ha,hai,rfl⟩) fun e=>by omega))
     have:=zO6 (a:=a) hc j;omega
    ·have hk7:¬k=7:=by simpa using hk7
     have two:k=8\/k=9->Wp (zAV n es (Int.ofNat i) es (Int.ofNat es.length) (Int.ofNat i) us [.int .i64 l,.int .i64 r]) (isSh es):=fun hk=>by
      rw [zCO,zQG];refine zGP (parts:=[.int .i64 l,.int .i64 r]) (x:=0) hu hc1 rfl (by omega) hi _ _ _ zCm fun a ha hai=>?_
      obtain ⟨T,ok1⟩:=hok.take hai hi fun j=>(hc j).1
      have hc3:=fun j=>zO6 (a:=a) hc j
      refine zGP (parts:=[.int .i64 l,.int .i64 r]) (x:=1) (hu.set (by omega) _) (fun j=>by have:=hc3 j;omega) rfl (by omega) hi _ _ _ zCm fun b hb hbi=>?_
      obtain ⟨T2,ok2⟩:=ok1.take hbi hi fun j=>(hc3 j).1
      refine zHL rfl (by omega) _ _ (ih (i+1) _ (upd (upd c a (c a+1)) b (upd c a (c a+1) b+1)) hlt (by omega) ((hu.set (by omega) _).set (by omega) _) (fun j=>?_) (ok2.next hlt (by omega) he' ⟨n0,n1⟩ hst (fun e=>by omega) fun _=>⟨a,b,ha,hb,hai,hbi,rfl⟩))
      have:=zO6 (a:=b) hc3 j;omega
     have j2:∀b:Bool,(b=true->k=8\/k=9)->(b=false->¬(k=8\/k=9))->Wp (zCn n es (Int.ofNat i) es (Int.ofNat es.length) (Int.ofNat i) b k s t nn l r us []) (isSh es):=fun b b1 b0=>by
      rw [zIi];exact Wp.if (fun hb=>two (b1 hb)) fun hb=>Wp.if (fun _=>Wp.mk zCm) fun _=>Wp.if (fun _=>Wp.mk zCm) fun _=>next0 [] rfl hk7 (b0 hb)
     refine Wp.if (fun hk=>j2 true (fun _=>.inl (by simpa using hk)) fun e=>by cases e) fun hk8=>j2 _ (fun e=>.inr (by simpa using e)) fun e=>?_
     have hk8:¬k=8:=by simpa using hk8
     have hk9:¬k=9:=by simpa using e
     omega
   ·have:i=es.length:=by omega
    subst this;exact zQF es us c hu h0 h64 hok _ 0 (Nat.zero_le _) (zv (by omega)) fun j hj=>by omega
 rw [zIj];have e1:Int.toNat (Int.ofNat es.length)=es.length:=rfl;refine Wp.gd ⟨Int.natCast_nonneg _,Int.le_refl _,?_,?_⟩ (loop _ 0 _ (fun _=>0) (Nat.zero_le _) (zv (by omega)) ⟨?_,fun j hj=>?_⟩ (fun j=>by omega) (.inr ⟨fun _=>0,⟨fun j hj=>by omega,fun j hj=>by omega,Nat.le_refl _,fun j hj=>by omega,fun _ _=>rfl⟩,Nat.le_refl _⟩))
 ·rw [e1];unfold ze;omega
 ·rw [e1];unfold ze;omega
 ·rw [e1,List.length_replicate]
 ·rw [e1];exact List.getElem?_eq_some_iff.2 ⟨by rw [List.length_replicate];exact hj,by rw [List.getElem_replicate]⟩
theorem zWo {l:List AV} (h:WF l) (hl:l.length<=64):Nds l:=⟨fun e he=>by
 obtain ⟨j,hj⟩:=List.getElem?_of_mem he;obtain ⟨k,s,t,n,a,b,rfl,hn,hs,ht,_⟩:=h j e hj;exact ⟨k,s,t,n,a,b,rfl,hn.1,hn.2,by omega,by omega⟩,by omega⟩
theorem zKm (es:List AV) (h:Nds es):Wp (zDb es) fun v=>∃n,v=.int .i64 n/\(n=0->0<es.length/\es.length<=64/\∃L,TL es L es.length):=by
 have hbad:∀n:Int,n≠0->∃m,(AV.int .i64 n)=.int .i64 m/\(m=0->0<es.length/\es.length<=64/\∃L,TL es L es.length):=fun n hn=>⟨n,rfl,fun e=>absurd e hn⟩
 rw [zLY];refine wk_b (zPE es h) fun b hb=>Wp.if (fun _=>Wp.mk (hbad _ (by decide))) fun hnb=>?_
 have hnb:b=true:=by simpa using hnb
 obtain ⟨h0,h64,L,hL⟩:=hb hnb;refine wk_s (zNb hL h0 h64) fun t _=>?_
 obtain ⟨v,e,hv⟩:=zQE t;rw [e];rcases hv with ⟨x,f,rfl,hn⟩ | ⟨l,rfl,hw,hl⟩
 ·show Wp (br (!(x==0&&f==0)) _ _) _
  exact Wp.if (fun _=>Wp.mk (hbad _ (by decide))) fun hf=>absurd (zJJ (p:=⟨[],0,0,0,x,f,[]⟩) hf) hn
 ·rw [zNj];exact Wp.if (fun _=>Wp.mk (hbad _ (by decide))) fun _=>wk_b (zJa l es (zWo hw hl) h) fun b _=>Wp.if (fun _=>Wp.mk (hbad _ (by decide))) fun _=>Wp.mk ⟨_,rfl,fun _=>⟨h0,h64,L,hL⟩⟩
theorem zQH (es:List AV) (h:Nds es):Wp (zDb es) isE:=(zKm es h).mono fun v ⟨n,e,_⟩=>⟨n,e,trivial⟩
theorem zQI (es:List AV) (h:Ats es) (k:Int) (s t:List Nat) (n l r:Int):Wp (zI es k s t n l r) fun v=>∃x,v=.int .i64 x/\(0<=x->∃i:Nat,x=Int.ofNat i/\i<es.length):=by
 have loop:∀(m i:Nat),i<=es.length->es.length-i<m->Wp (zt m es k s t n l r (Int.ofNat es.length) (Int.ofNat i)) fun v=>∃x,v=.int .i64 x/\(0<=x->∃i:Nat,x=Int.ofNat i/\i<es.length):=by
  intro m
  induction m with
  | zero=>intro i _ h;omega
  | succ m ih=>
   intro i hi hm;rw [zA1];refine Wp.lt (fun hlt=>h.at hlt fun a b _=>qk_b (zJ2 ..) (Wp.if (fun _=>Wp.mk ⟨_,rfl,fun _=>⟨i,rfl,hlt⟩⟩) fun _=>?_)) fun _=>Wp.mk ⟨_,rfl,fun h=>absurd h (by decide)⟩
   rw [zp (by have:=h.2;omega)]
   exact ih (i+1) hlt (by omega)
 rw [zBe];exact loop _ 0 (Nat.zero_le _) (zv (by have:=h.2;omega))
theorem zSJ {es:List AV} {L:Nat->Nat} {m:Nat} (h:TL es L m) (ats:List AV) (ha:Ats ats):∀(d j:Nat),j<d->j<m->Wp (zA5 d es (Int.ofNat j) ats) isB:=by
 intro d
 induction d with
 | zero=>intro j h;omega
 | succ d ih=>
  intro j hd hj;obtain ⟨k,s,t,n,l,r,he,hn,h1,ht,h7,h89⟩:=h.at hj;rw [zL8];refine zDH he (wk_i (zQI ats ha k s t n l r) fun x hx=>?_)
  have num:∀{f:Int->Option AV} (v:List Nat),v.length<=12->(∀y,Wp (f y) isB)->Wp (dK true [K.i IntKind.i64] (zBd v) f) isB:=fun v hv hf=>wk_i (zGO v (by omega)) fun y _=>hf y
  refine Wp.if (fun _=>Wp.mk ⟨_,rfl,trivial⟩) fun _=>?_
  refine Wp.if (fun _=>Wp.ite (fun h0=>?_) fun _=>Wp.mk ⟨_,rfl,trivial⟩) fun _=>?_
  ·obtain ⟨i,rfl,hi⟩:=hx h0;exact ha.at hi fun _ _ _=>Wp.mk ⟨_,rfl,trivial⟩
  refine Wp.if (fun _=>Wp.ite (fun h0=>Wp.mk ⟨_,rfl,trivial⟩) fun h0=>?_) fun _=>?_
  ·obtain ⟨i,rfl,hi⟩:=hx (by omega)
   exact ha.at hi fun _ _ _=>Wp.mk ⟨_,rfl,trivial⟩
  refine Wp.if (fun _=>Wp.ite (fun h0=>?_) fun _=>Wp.mk ⟨_,rfl,trivial⟩) fun _=>?_
  ·obtain ⟨i,rfl,hi⟩:=hx h0;refine ha.at hi fun a b e=>?_
   obtain ⟨q,hq,hq2⟩:=zId b;refine qk_b hq (Wp.if (fun hb=>ha.at hi fun a' b' e'=>?_) fun _=>Wp.mk ⟨_,rfl,trivial⟩)
   rw [e] at e';cases e';exact num b (hq2 hb).1 fun y=>Wp.mk ⟨_,rfl,trivial⟩
  refine Wp.if (fun _=>Wp.ite (fun h0=>?_) fun _=>Wp.mk ⟨_,rfl,trivial⟩) fun _=>?_
  ·obtain ⟨i,rfl,hi⟩:=hx h0;refine ha.at hi fun a b e=>?_
   obtain ⟨q,hq,hq2⟩:=zId b;refine qk_b hq (Wp.if (fun hb=>ha.at hi fun a' b' e'=>?_) fun _=>Wp.mk ⟨_,rfl,trivial⟩)
   rw [e] at e';cases e';exact num b (hq2 hb).1 fun y=>Wp.mk ⟨_,rfl,trivial⟩
  refine Wp.if (fun hk=>?_) fun _=>?_
  ·obtain ⟨a,rfl,ha',_⟩:=h7 (by simpa using hk)
   exact wk_b (ih a (by omega) (by omega)) fun b _=>Wp.mk ⟨_,rfl,trivial⟩
  refine Wp.if (fun hk=>?_) fun _=>?_
  ·obtain ⟨a,b,rfl,rfl,ha',hb',_⟩:=h89 (.inl (by simpa using hk))
   exact wk_b (ih a (by omega) (by omega)) fun b _=>Wp.if (fun _=>wk_b (ih _ (by omega) (by omega)) fun b _=>Wp.mk ⟨_,rfl,trivial⟩) fun _=>Wp.mk ⟨_,rfl,trivial⟩
  refine Wp.if (fun hk=>?_) fun _=>Wp.mk ⟨_,rfl,trivial⟩
  ·obtain ⟨a,b,rfl,rfl,ha',hb',_⟩:=h89 (.inr (by simpa using hk))
   exact wk_b (ih a (by omega) (by omega)) fun b _=>Wp.if (fun _=>Wp.mk ⟨_,rfl,trivial⟩) fun _=>wk_b (ih _ (by omega) (by omega)) fun b _=>Wp.mk ⟨_,rfl,trivial⟩
theorem zQJ (es:List AV) (h:Nds es) (ats:List AV) (ha:Ats ats):Wp (zGk es ats) fun v=>∃b n,v=.tup [.bool b,.int .i64 n]/\True:=by
 rw [zL9];refine wk_i (zKm es h) fun n hn=>Wp.if (fun _=>Wp.mk ⟨_,_,rfl,trivial⟩) fun h0=>?_
 obtain ⟨l0,l64,L,hL⟩:=hn (by simpa using h0)
 refine wk_i (zLL ats ha) fun n1 _=>Wp.if (fun _=>Wp.mk ⟨_,_,rfl,trivial⟩) fun _=>?_
 rw [zEp l0 (by omega)]
 exact wk_b (zSJ hL ats ha FUEL (es.length-1) (zv (by omega)) (by omega)) fun b _=>Wp.mk ⟨_,_,rfl,trivial⟩
end Go.Proofs.YthiefohjkbdjeaaGreatDoor.scoreTurned
namespace Go.Proofs.YthiefohjkbdjeaaGreatDoor.scoreTurned
open Go Go.Sy
abbrev zRQ (p:List Nat) (a b c d:Int) (v:AV):Prop:=∃x y z u g,v=.tup [am x y z u,.bool g]/\(p=[]->within a b c d x y z u)
theorem zKI (nm:List Nat) (ats:List AV) (c1 c2 c3 c4:Int) (up:Bool) (us:List AV) (h:Us us) (p:List Nat):Wp (zEz nm ats c1 c2 c3 c4 up us p) (zRQ p c1 c2 c3 c4):=by
 rw [zNn];have j0:∀a b c d:Int,(p=[]->a=c1/\b=c2/\c=c3/\d=c4)->Wp (zDS p nm ats c1 c2 c3 c4 up us a b c d (Int.ofNat 0) (Int.ofNat 0) (Int.ofNat 0) (Int.ofNat 0)) (zRQ p c1 c2 c3 c4):=fun a b c d hp=>by
  rw [zKW];refine zLJ (zV1 us h p) fun l hl=>zEt (zSI l (h.sub hl.1 hl.2) a b c d) fun x y z u g hw=>Wp.mk ⟨_,_,_,_,_,rfl,fun e=>?_⟩
  obtain ⟨rfl,rfl,rfl,rfl⟩:=hp e;exact hw
 refine Wp.if (fun hp=>?_) fun hp=>j0 _ _ _ _ fun _=>⟨rfl,rfl,rfl,rfl⟩
 have hne:p≠[]:=fun e=>by subst e;cases hp
 refine zJV (zO2 nm ats c1 c2 c3 c4 up us h p) fun s a b c d e f t g g' _=>Wp.if (fun _=>Wp.mk ⟨_,_,_,_,_,rfl,fun e=>absurd e hne⟩) fun _=>j0 _ _ _ _ fun e=>absurd e hne
def zNH (m:List (AV×AV)):Prop:=∀p∈m,∃s i b,p=(.agg [.str s,.int .i64 i],.bool b)
theorem zO7 (s s':List Nat) (i i':Int):∃b,eqk true [Kd.s,Kd.i] (.agg [.str s,.int .i64 i]) (.agg [.str s',.int .i64 i'])=some b:=by
 show ∃b,(match some (seqb s s') with | some true=>(match (some (i==i'):Option Bool) with | some true=>some true | some false=>some false | none=>none) | some false=>some false | none=>none)=some b
 cases seqb s s' with
 | true=>cases (i==i') with
  | true=>exact ⟨true,rfl⟩
  | false=>exact ⟨false,rfl⟩
 | false=>exact ⟨false,rfl⟩
theorem zQK {m:List (AV×AV)} (h:zNH m) (s:List Nat) (i:Int):mfind true [Kd.s,Kd.i] (.agg [.str s,.int .i64 i]) m=some none\/∃b,mfind true [Kd.s,Kd.i] (.agg [.str s,.int .i64 i]) m=some (some (.bool b)):=by
 induction m with
 | nil=>exact .inl rfl
 | cons p r ih=>
  obtain ⟨s',i',b,rfl⟩:=h p (.head _);obtain ⟨q,hq⟩:=zO7 s s' i i';simp only [mfind,hq];cases q with
  | true=>exact .inr ⟨b,rfl⟩
  | false=>exact ih fun p hp=>h p (.tail _ hp)
theorem zRR {m:List (AV×AV)} (h:zNH m) (s:List Nat) (i:Int) (b:Bool):∃m',mput true [Kd.s,Kd.i] (.agg [.str s,.int .i64 i]) (.bool b) m=some m'/\zNH m':=by
 induction m with
 | nil=>exact ⟨_,rfl,fun p hp=>by simp only [List.mem_singleton] at hp;exact ⟨s,i,b,hp⟩⟩
 | cons p r ih=>
  have hp:=h p (.head _);obtain ⟨s',i',b',rfl⟩:=hp;obtain ⟨q,hq⟩:=zO7 s s' i i';simp only [mput,hq];cases q with
  | true=>exact ⟨_,rfl,fun p hp=>by
    rcases List.mem_cons.1 hp with rfl | hp
    ·exact ⟨s,i,b,rfl⟩
    ·exact h p (.tail _ hp)⟩
  | false=>
   obtain ⟨r',hr,hr'⟩:=ih fun p hp=>h p (.tail _ hp)
   refine ⟨_,by rw [hr],fun p hp=>?_⟩
   rcases List.mem_cons.1 hp with rfl | hp
   ·exact ⟨s',i',b',rfl⟩
   ·exact hr' p hp
theorem zFa (nm:List Nat) (ats:List AV) (ha:Ats ats) (c1 c2 c3 c4:Int) (up:Bool) (us:List AV) (h:Us us):Wp (zAG nm ats c1 c2 c3 c4 up us) fun v=>∃n,v=.int .i64 n/\(n=0->okA c1 c2 c3 c4):=by
 have hL:=h.2;have loop2:okA c1 c2 c3 c4->∀(n i:Nat),i<=us.length->us.length-i<n->Wp (zBz n us (Int.ofNat us.length) (Int.ofNat i) nm ats c1 c2 c3 c4 up us) fun v=>∃n,v=.int .i64 n/\(n=0->okA c1 c2 c3 c4):=by
  intro hok n
  induction n with
  | zero=>intro i _ h;omega
  | succ n ih=>
   intro i hi hn;rw [zGV];refine Wp.lt (fun hlt=>h.at hlt fun s a b c d e f t g he=>zEt (zKI nm ats c1 c2 c3 c4 up us h t) fun _ _ _ _ _ _=>Wp.if (fun _=>Wp.mk ⟨_,rfl,fun _=>hok⟩) fun _=>?_) fun _=>Wp.mk ⟨_,rfl,fun _=>hok⟩
   rw [zp (by omega)]
   exact ih (i+1) hlt (by omega)
 have loop:okA c1 c2 c3 c4->∀(n i:Nat) (m:List (AV×AV)),zNH m->i<=us.length->us.length-i<n->Wp (zBA n us (Int.ofNat us.length) (Int.ofNat i) nm ats c1 c2 c3 c4 up us m) fun v=>∃n,v=.int .i64 n/\(n=0->okA c1 c2 c3 c4):=by
  intro hok n
  induction n with
  | zero=>intro i _ _ _ h;omega
  | succ n ih=>
   intro i m hm hi hn;rw [zGW];refine Wp.lt (fun hlt=>h.at hlt fun s a b c d e f t g he=>wk_b (zPy s a b c d e f t g) fun _ _=>Wp.if (fun _=>Wp.mk ⟨_,rfl,fun _=>hok⟩) fun _=>?_) fun _=>loop2 hok _ 0 (Nat.zero_le _) (zv (by omega))
   have hf:∃q,lkR false (AV.bool false) (mfind true [Kd.s,Kd.i] (AV.agg [AV.str s,AV.int IntKind.i64 a]) m)=some (.bool q):=by
    rcases zQK hm s a with e | ⟨b,e⟩ <;> rw [e]
    ·exact ⟨false,rfl⟩
    ·exact ⟨b,rfl⟩
   obtain ⟨q,hq⟩:=hf;refine qk_b hq (Wp.if (fun _=>Wp.mk ⟨_,rfl,fun _=>hok⟩) fun _=>?_)
   obtain ⟨m',e,hm'⟩:=zRR hm s a true;rw [e,zHH,zp (by omega)]
   exact ih (i+1) m' hm' hlt (by omega)
 have j1:∀q,(q=false->okA c1 c2 c3 c4)->Wp (zAA q nm ats c1 c2 c3 c4 up us) fun v=>∃n,v=.int .i64 n/\(n=0->okA c1 c2 c3 c4):=fun q hq=>by
  rw [zHk];refine Wp.if (fun _=>Wp.mk ⟨_,rfl,fun h=>(by cases h)⟩) fun e=>?_
  rw [zHj];exact loop (hq e) _ 0 [] (fun p hp=>by cases hp) (Nat.zero_le _) (zv (by omega))
 rw [zJl];refine Wp.ite (fun _=>j1 _ fun e=>(by cases e)) fun _=>Wp.ite (fun _=>j1 _ fun e=>(by cases e)) fun _=>wk_i (zLL ats ha) fun n _=>Wp.if (fun _=>j1 _ fun e=>(by cases e)) fun _=>qk_i (zDn ..) (j1 _ fun e=>?_)
 split at e
 ·assumption
 ·cases e
theorem zSK (nm:List Nat) (ats:List AV) (ha:Ats ats) (c1 c2 c3 c4:Int) (up:Bool) (us:List AV) (h:Us us):Wp (zHX nm ats c1 c2 c3 c4 up us []) fun v=>∃x y z u n,v=.tup [am x y z u,.int .i64 n]/\within c1 c2 c3 c4 x y z u:=by
 have z:within c1 c2 c3 c4 0 0 0 0:=fun hk=>by unfold okA at *;exact ⟨by decide,hk.1.1,hk.2.1.1,hk.2.2.1.1,hk.2.2.2.1⟩
 rw [zNo];refine wk_i (zFa nm ats ha c1 c2 c3 c4 up us h) fun n _=>Wp.if (fun _=>Wp.mk ⟨_,_,_,_,_,rfl,z⟩) fun _=>zEt (zKI nm ats c1 c2 c3 c4 up us h []) fun x y z' u g hw=>Wp.if (fun _=>Wp.mk ⟨_,_,_,_,_,rfl,z⟩) fun _=>Wp.mk ⟨_,_,_,_,_,rfl,hw rfl⟩
theorem zIe (s:List Nat) (bd a b c d:Int) (r:List AV) (hr:Nds r) (t:List Nat):Wp (zA8 s bd a b c d r t) fun v=>∃n,v=.int .i64 n/\(n=0->okA a b c d/\¬(a=0/\b=0/\c=0/\d=0)):=by
 have j1:∀q,(q=true->okA a b c d/\¬(a=0/\b=0/\c=0/\d=0))->Wp (zAz q) fun v=>∃n,v=.int .i64 n/\(n=0->okA a b c d/\¬(a=0/\b=0/\c=0/\d=0)):=fun q hq=>by
  rw [zHg];exact Wp.if (fun _=>Wp.mk ⟨_,rfl,fun h=>(by cases h)⟩) fun e=>Wp.mk ⟨_,rfl,fun _=>hq (by simpa using e)⟩
 have j0:∀q,(q=true->okA a b c d/\¬(a=0/\b=0/\c=0/\d=0))->Wp (zW q s bd a b c d r t) fun v=>∃n,v=.int .i64 n/\(n=0->okA a b c d/\¬(a=0/\b=0/\c=0/\d=0)):=fun q hq=>by
  rw [zHh];refine Wp.if (fun _=>Wp.if (fun hq'=>wk_b (zI9 t) fun _ _=>Wp.if (fun _=>wk_b (zJa r _ hr ?_) fun _ _=>j1 _ fun _=>hq hq') fun _=>j1 _ fun h=>(by cases h)) fun _=>j1 _ fun h=>(by cases h)) fun _=>j1 _ hq
  exact ⟨fun e he=>⟨_,_,_,_,_,_,List.mem_singleton.1 he,by decide,by decide,by decide,by decide⟩,by decide⟩
 rw [zJg];refine wk_b (zI9 s) fun _ _=>Wp.if (fun _=>Wp.ite (fun _=>Wp.ite (fun _=>qk_i (zDn ..) (Wp.if (fun h1=>Wp.if (fun h2=>wk_i (zQH r hr) fun _ _=>j0 _ fun _=>⟨?_,?_⟩) fun _=>j0 _ fun h=>(by cases h)) fun _=>j0 _ fun h=>(by cases h))) fun _=>j0 _ fun h=>(by cases h)) fun _=>j0 _ fun h=>(by cases h)) fun _=>j0 _ fun h=>(by cases h)
 ·split at h1
  ·assumption
  ·cases h1
 ·rintro ⟨rfl,rfl,rfl,rfl⟩
  cases h2
theorem zRS (s:List Nat) (bd a b c d:Int) (r:List AV) (t:List Nat) (nm:List Nat) (ats:List AV) (c1 c2 c3 c4:Int) (up:Bool) (us:List AV) (h:Us us) (p:List Nat):Wp (zHV s bd a b c d r t nm ats c1 c2 c3 c4 up us p) isE:=by
 have loop:∀(es:List AV),Us es->∀(n i:Nat) (x y z u:Int),i<=es.length->es.length-i<n->Wp (zEU n es (Int.ofNat es.length) (Int.ofNat i) s bd a b c d r t x y z u) isE:=by
  intro es hes n
  induction n with
  | zero=>intro i _ _ _ _ _ h;omega
  | succ n ih=>
   intro i x y z u hi hn;rw [zME];refine Wp.lt (fun hlt=>hes.at hlt fun _ _ _ _ _ _ _ _ _ _=>zF6 (zO1 ..) fun _ _ _ _ _ _=>?_) fun _=>qk_b (zE9 ..) (Wp.if (fun _=>Wp.mk ⟨_,rfl,trivial⟩) fun _=>Wp.mk ⟨_,rfl,trivial⟩)
   rw [zp (by have:=hes.2;omega)]
   exact ih (i+1) _ _ _ _ hlt (by omega)
 rw [zPJ];refine zEt (zKI nm ats c1 c2 c3 c4 up us h p) fun _ _ _ _ _ _=>qk_b (zE9 ..) (Wp.if (fun _=>Wp.mk ⟨_,rfl,trivial⟩) fun _=>?_)
 rw [zMD];refine zLJ (R:=fun l=>(∀e∈l,e∈us)/\l.length<=us.length) (zLJ (zPB us h p s bd a b c d r t) fun l hl=>Wp.mk ⟨l,rfl,hl⟩) fun l hl=>?_
 exact loop l (h.sub hl.1 hl.2) _ 0 _ _ _ _ (Nat.zero_le _) (zv (by have:=h.2;omega))
theorem zVa (s:List Nat) (bd a b c d:Int) (r:List AV) (hr:Nds r) (t:List Nat) (nm:List Nat) (ats:List AV) (ha:Ats ats) (c1 c2 c3 c4:Int) (up:Bool) (us:List AV) (h:Us us):Wp (zGG s bd a b c d r t nm ats c1 c2 c3 c4 up us) fun v=>∃k p e,v=.tup [.int .i64 k,.str p,.int .i64 e]/\(e=0->okA c1 c2 c3 c4/\okA a b c d/\¬(a=0/\b=0/\c=0/\d=0)):=by
 rw [zPe];refine wk_i (zIe s bd a b c d r hr t) fun n hn=>Wp.if (fun e=>Wp.mk ⟨_,_,_,rfl,fun h0=>?_⟩) fun hn0=>wk_i (zFa nm ats ha c1 c2 c3 c4 up us h) fun n' hv=>Wp.if (fun e=>Wp.mk ⟨_,_,_,rfl,fun h0=>?_⟩) fun hv0=>?_
 ·subst h0;cases e
 ·subst h0;cases e
 have hn0:=hn (by simpa using hn0)
 have hv0:=hv (by simpa using hv0)
 have fin:∀{k:Int} {p:List Nat} {e:Int},Wp (some (AV.tup [.int .i64 k,.str p,.int .i64 e])) fun v=>∃k p e,v=.tup [.int .i64 k,.str p,.int .i64 e]/\(e=0->okA c1 c2 c3 c4/\okA a b c d/\¬(a=0/\b=0/\c=0/\d=0)):=Wp.mk ⟨_,_,_,rfl,fun _=>⟨hv0,hn0⟩⟩
 refine zUY (zQJ r hr ats ha) fun _ _ _=>Wp.if (fun _=>fin) fun _=>Wp.if (fun _=>fin) fun _=>?_
 rw [zMd];have loop:∀(es:List AV),Us es->∀(n i:Nat) (k:Int) (p:List Nat) (x:Int),i<=es.length->es.length-i<n->Wp (zCD n s bd a b c d r t k p x es (Int.ofNat es.length) (Int.ofNat i) nm ats c1 c2 c3 c4 up us) fun v=>∃k p e,v=.tup [.int .i64 k,.str p,.int .i64 e]/\(e=0->okA c1 c2 c3 c4/\okA a b c d/\¬(a=0/\b=0/\c=0/\d=0)):=by
  intro es hes n
  induction n with
  | zero=>intro i _ _ _ _ h;omega
  | succ n ih=>
   intro i k p x hi hn;have hL:=hes.2;rw [zKX];refine Wp.lt (fun hlt=>hes.at hlt fun s' a' b' c' d' e' f' t' g' _=>zMu (zHK s' a') fun q _ _=>wk_i (zRS s bd a b c d r t nm ats c1 c2 c3 c4 up us h q) fun z _=>?_) fun _=>fin
   have next:∀q' z' w,Wp (zCc n s bd a b c d r t k p x q' z' es (Int.ofNat es.length) (Int.ofNat i) w nm ats c1 c2 c3 c4 up us s' a' b' c' d' e' f' t' g') fun v=>∃k p e,v=.tup [.int .i64 k,.str p,.int .i64 e]/\(e=0->okA c1 c2 c3 c4/\okA a b c d/\¬(a=0/\b=0/\c=0/\d=0)):=fun q' z' w=>by
    rw [zMc,zp (by omega)]
    exact Wp.if (fun _=>ih (i+1) _ _ _ hlt (by omega)) fun _=>ih (i+1) _ _ _ hlt (by omega)
   repeat' first | exact next _ _ _ | refine Wp.ite (fun _=>?_) (fun _=>?_) | refine Wp.if (fun _=>?_) (fun _=>?_)
 refine Wp.if (fun _=>wk_i (zRS s bd a b c d r t nm ats c1 c2 c3 c4 up us h []) fun _ _=>fin) fun _=>zLJ (zRL us h s bd a b c d r t) fun l hl=>?_
 exact loop l (h.sub hl.1 hl.2) _ 0 _ _ _ (Nat.zero_le _) (zv (by have:=h.2;have:=hl.2;omega))
end Go.Proofs.YthiefohjkbdjeaaGreatDoor.scoreTurned
namespace Go.Proofs.YthiefohjkbdjeaaGreatDoor.scoreTurned
open Go Go.Sy
def xq (c f l:Int):Int:=Int.tdiv ((if f-l > 0 then f-l else 0)*1000) c
theorem zNI {c f l:Int} (hc:0<c) (hc2:c<=1099511627776) (f0:0<=f) (f1:f<=c) (l0:0<=l) (l1:l<=1099511627776):wrapx .i64 (Int.tdiv (wrapx .i64 ((if wrapx .i64 (f-l) > 0 then wrapx .i64 (f-l) else 0)*1000)) c)=xq c f l/\0<=xq c f l/\xq c f l<=1000/\(1<=l->xq c f l<1000):=by
 rw [zc (n:=f-l) (by omega) (by omega)]
 have hb:0<=(if f-l > 0 then f-l else 0)/\(if f-l > 0 then f-l else 0)<=c/\(1<=l->(if f-l > 0 then f-l else 0)<c):=by split <;> omega
 unfold xq;generalize (if f-l > 0 then f-l else 0)=y at *
 rw [zc (n:=y*1000) (by omega) (by omega)]
 have e:Int.tdiv (y*1000) c=y*1000 / c:=Int.tdiv_eq_ediv_of_nonneg (by omega)
 rw [e];have h1:0<=y*1000 / c:=Int.ediv_nonneg (by omega) (by omega)
 have h2:y*1000 / c<=1000:=Int.ediv_le_of_le_mul hc (by omega)
 have h3:1<=l->y*1000 / c<1000:=fun h=>Int.ediv_lt_of_lt_mul hc (by have:=hb.2.2 h;omega)
 exact ⟨zc (by omega) (by omega),h1,h2,h3⟩
def zWp (j:List Nat):AV->Bool
 | .agg [.str s,_,_,_,_,_,_,_,.bool g]=>!g&&seqb s j
 | _=>false
def cntJ (j:List Nat) (es:List AV):Nat:=(es.filter (zWp j)).length
theorem zRT (k:Int) (es:List AV) (h:Us es) (hl:es.length<=30) (s:List Nat) (bd a b c d:Int) (r:List AV) (t:List Nat):∀(n i:Nat) (z:Int),i<=es.length->es.length-i<n->z<=14000->-20000+300*(i:Int)<=z+600*(i:Int)->zAN n k z es (Int.ofNat es.length) (Int.ofNat i) s bd a b c d r t=some (.int .i64 (z-300*(cntJ s (es.drop i):Int)-if k=1 then 4000 else 0)):=by
 intro n
 induction n with
 | zero=>intro i _ _ h;omega
 | succ n ih=>
  intro i z hi hn hz hz2;refine zJI ?_
  rw [zHY];refine Wp.lt (fun hlt=>h.at hlt fun s' a' b' c' d' e' f' t' g' he=>?_) fun hge=>?_
  ·have hd:es.drop i=es[i]::es.drop (i+1):=List.drop_eq_getElem_cons hlt;have hc:(cntJ s (es.drop i):Int)=(if (!g'&&seqb s' s)=true then 1 else 0)+(cntJ s (es.drop (i+1)):Int):=by
    rw [hd,he];unfold cntJ;rw [List.filter_cons];show ((if (!g'&&seqb s' s)=true then _ else _:List AV).length:Int)=_
    split
    ·rw [List.length_cons];omega
    ·omega
   rw [zp (by omega),zc (n:=z-300) (by omega) (by omega)]
   refine Wp.if (fun hg=>Wp.if (fun hs=>?_) fun hs=>?_) fun hg=>?_
   ·rw [ih (i+1) (z-300) hlt (by omega) (by omega) (by omega)]
    refine Wp.mk ?_
    rw [hc,hg,hs];congr 1;simp only [Bool.and_self,if_true];omega
   ·rw [ih (i+1) z hlt (by omega) hz (by omega)]
    refine Wp.mk ?_
    rw [hc,hg,hs];congr 1;simp only [Bool.and_false,Bool.false_eq_true,if_false];omega
   ·rw [ih (i+1) z hlt (by omega) hz (by omega)]
    refine Wp.mk ?_
    rw [hc,hg];congr 1;simp only [Bool.false_and,Bool.false_eq_true,if_false];omega
  ·have:es.drop i=[]:=List.drop_eq_nil_of_le hge;rw [this];have e0:(cntJ s []:Int)=0:=rfl;rw [e0,zc (by omega) (by omega)]
   refine Wp.if (fun hk=>Wp.mk ?_) fun hk=>Wp.mk ?_
   ·have hk:k=1:=by simpa using hk
    rw [if_pos hk];congr 1;omega
   ·have hk:¬k=1:=by simpa using hk
    rw [if_neg hk];congr 1;omega
theorem zPF (s:List Nat) (bd a b c d:Int) (r:List AV) (t:List Nat) (nm:List Nat) (ats:List AV) (ha:Ats ats) (c1 c2 c3 c4:Int) (up:Bool) (us:List AV) (h:Us us) (hl:us.length<=30) (k:Int) (hc:okA c1 c2 c3 c4) (hn:okA a b c d) (hz:¬(a=0/\b=0/\c=0/\d=0)):∃T:Int,0<=T/\T<4000/\zDT s bd a b c d r t nm ats c1 c2 c3 c4 up us k=some (.int .i64 (14000-T-300*(cntJ s us:Int)-if k=1 then 4000 else 0)):=by
 have:Wp (zDT s bd a b c d r t nm ats c1 c2 c3 c4 up us k) fun v=>∃T:Int,0<=T/\T<4000/\v=.int .i64 (14000-T-300*(cntJ s us:Int)-if k=1 then 4000 else 0):=by
  rw [zKY];refine zF6 (zSK nm ats ha c1 c2 c3 c4 up us h) fun f1 f2 f3 f4 e hw=>?_
  obtain ⟨hf,w1,w2,w3,w4⟩:=hw hc;have fin:∀z T:Int,0<=T->T<4000->z=14000-T->Wp (zn k z s bd a b c d r t nm ats c1 c2 c3 c4 up us) fun v=>∃T:Int,0<=T/\T<4000/\v=.int .i64 (14000-T-300*(cntJ s us:Int)-if k=1 then 4000 else 0):=fun z T h0 h1 hz=>by
   rw [zIt,zRT k us h hl s bd a b c d r t _ 0 z (Nat.zero_le _) (zv (by omega)) (by omega) (by omega)]
   refine Wp.mk ⟨T,h0,h1,?_⟩
   rw [List.drop_zero,hz]
  unfold okA at hc hn hf;have q1:0<c1->_:=fun p=>zNI (l:=a) p hc.1.2 hf.1.1 w1 hn.1.1 hn.1.2
  have q2:0<c2->_:=fun p=>zNI (l:=b) p hc.2.1.2 hf.2.1.1 w2 hn.2.1.1 hn.2.1.2
  have q3:0<c3->_:=fun p=>zNI (l:=c) p hc.2.2.1.2 hf.2.2.1.1 w3 hn.2.2.1.1 hn.2.2.1.2
  have q4:0<c4->_:=fun p=>zNI (l:=d) p hc.2.2.2.2 hf.2.2.2.1 w4 hn.2.2.2.1 hn.2.2.2.2
  refine Wp.ite (fun p1=>Wp.gd (by omega) ?_) fun p1=>?_
  ·skip
   refine Wp.ite (fun p2=>Wp.gd (by omega) ?_) fun p2=>?_
   ·skip
    refine Wp.ite (fun p3=>Wp.gd (by omega) ?_) fun p3=>?_
    ·skip
     refine Wp.ite (fun p4=>Wp.gd (by omega) ?_) fun p4=>?_
     ·skip
      rw [(q1 p1).1];rw [(q2 p2).1];rw [(q3 p3).1];rw [(q4 p4).1];obtain ⟨_,g1⟩:=q1 p1;generalize xq c1 f1 a=y1 at *;obtain ⟨_,g2⟩:=q2 p2;generalize xq c2 f2 b=y2 at *;obtain ⟨_,g3⟩:=q3 p3;generalize xq c3 f3 c=y3 at *;obtain ⟨_,g4⟩:=q4 p4;generalize xq c4 f4 d=y4 at *;rw [show wrapx .i64 (Int.ofNat 11000-y1)=11000-y1 from zc (by rw [Int.ofNat_eq_natCast];omega) (by rw [Int.ofNat_eq_natCast];omega)]
      rw [show wrapx .i64 (11000-y1+1000)=11000-y1+1000 from zc (by omega) (by omega)]
      rw [show wrapx .i64 (11000-y1+1000-y2)=11000-y1+1000-y2 from zc (by omega) (by omega)]
      rw [show wrapx .i64 (11000-y1+1000-y2+1000)=11000-y1+1000-y2+1000 from zc (by omega) (by omega)]
      rw [show wrapx .i64 (11000-y1+1000-y2+1000-y3)=11000-y1+1000-y2+1000-y3 from zc (by omega) (by omega)]
      rw [show wrapx .i64 (11000-y1+1000-y2+1000-y3+1000)=11000-y1+1000-y2+1000-y3+1000 from zc (by omega) (by omega)]
      rw [show wrapx .i64 (11000-y1+1000-y2+1000-y3+1000-y4)=11000-y1+1000-y2+1000-y3+1000-y4 from zc (by omega) (by omega)]
      exact fin _ (y1+y2+y3+y4) (by omega) (by omega) (by omega)
     ·skip
      rw [(q1 p1).1];rw [(q2 p2).1];rw [(q3 p3).1];obtain ⟨_,g1⟩:=q1 p1;generalize xq c1 f1 a=y1 at *;obtain ⟨_,g2⟩:=q2 p2;generalize xq c2 f2 b=y2 at *;obtain ⟨_,g3⟩:=q3 p3;generalize xq c3 f3 c=y3 at *;rw [show wrapx .i64 (Int.ofNat 11000-y1)=11000-y1 from zc (by rw [Int.ofNat_eq_natCast];omega) (by rw [Int.ofNat_eq_natCast];omega)]
      rw [show wrapx .i64 (11000-y1+1000)=11000-y1+1000 from zc (by omega) (by omega)]
      rw [show wrapx .i64 (11000-y1+1000-y2)=11000-y1+1000-y2 from zc (by omega) (by omega)]
      rw [show wrapx .i64 (11000-y1+1000-y2+1000)=11000-y1+1000-y2+1000 from zc (by omega) (by omega)]
      rw [show wrapx .i64 (11000-y1+1000-y2+1000-y3)=11000-y1+1000-y2+1000-y3 from zc (by omega) (by omega)]
      rw [show wrapx .i64 (11000-y1+1000-y2+1000-y3+1000)=11000-y1+1000-y2+1000-y3+1000 from zc (by omega) (by omega)]
      exact fin _ (y1+y2+y3) (by omega) (by omega) (by omega)
    ·skip
     refine Wp.ite (fun p4=>Wp.gd (by omega) ?_) fun p4=>?_
     ·skip
      rw [(q1 p1).1];rw [(q2 p2).1];rw [(q4 p4).1];obtain ⟨_,g1⟩:=q1 p1;generalize xq c1 f1 a=y1 at *;obtain ⟨_,g2⟩:=q2 p2;generalize xq c2 f2 b=y2 at *;obtain ⟨_,g4⟩:=q4 p4;generalize xq c4 f4 d=y4 at *;rw [show wrapx .i64 (Int.ofNat 11000-y1)=11000-y1 from zc (by rw [Int.ofNat_eq_natCast];omega) (by rw [Int.ofNat_eq_natCast];omega)]
      rw [show wrapx .i64 (11000-y1+1000)=11000-y1+1000 from zc (by omega) (by omega)]
      rw [show wrapx .i64 (11000-y1+1000-y2)=11000-y1+1000-y2 from zc (by omega) (by omega)]
      rw [show wrapx .i64 (11000-y1+1000-y2+1000)=11000-y1+1000-y2+1000 from zc (by omega) (by omega)]
      rw [show wrapx .i64 (11000-y1+1000-y2+1000+1000)=11000-y1+1000-y2+1000+1000 from zc (by omega) (by omega)]
      rw [show wrapx .i64 (11000-y1+1000-y2+1000+1000-y4)=11000-y1+1000-y2+1000+1000-y4 from zc (by omega) (by omega)]
      exact fin _ (y1+y2+y4) (by omega) (by omega) (by omega)
     ·skip
      rw [(q1 p1).1];rw [(q2 p2).1];obtain ⟨_,g1⟩:=q1 p1;generalize xq c1 f1 a=y1 at *;obtain ⟨_,g2⟩:=q2 p2;generalize xq c2 f2 b=y2 at *;rw [show wrapx .i64 (Int.ofNat 11000-y1)=11000-y1 from zc (by rw [Int.ofNat_eq_natCast];omega) (by rw [Int.ofNat_eq_natCast];omega)]
      rw [show wrapx .i64 (11000-y1+1000)=11000-y1+1000 from zc (by omega) (by omega)]
      rw [show wrapx .i64 (11000-y1+1000-y2)=11000-y1+1000-y2 from zc (by omega) (by omega)]
      rw [show wrapx .i64 (11000-y1+1000-y2+1000)=11000-y1+1000-y2+1000 from zc (by omega) (by omega)]
      rw [show wrapx .i64 (11000-y1+1000-y2+1000+1000)=11000-y1+1000-y2+1000+1000 from zc (by omega) (by omega)]
      exact fin _ (y1+y2) (by omega) (by omega) (by omega)
   ·skip
    refine Wp.ite (fun p3=>Wp.gd (by omega) ?_) fun p3=>?_
    ·skip
     refine Wp.ite (fun p4=>Wp.gd (by omega) ?_) fun p4=>?_
     ·skip
      rw [(q1 p1).1];rw [(q3 p3).1];rw [(q4 p4).1];obtain ⟨_,g1⟩:=q1 p1;generalize xq c1 f1 a=y1 at *;obtain ⟨_,g3⟩:=q3 p3;generalize xq c3 f3 c=y3 at *;obtain ⟨_,g4⟩:=q4 p4;generalize xq c4 f4 d=y4 at *;rw [show wrapx .i64 (Int.ofNat 11000-y1)=11000-y1 from zc (by rw [Int.ofNat_eq_natCast];omega) (by rw [Int.ofNat_eq_natCast];omega)]
      rw [show wrapx .i64 (11000-y1+1000)=11000-y1+1000 from zc (by omega) (by omega)]
      rw [show wrapx .i64 (11000-y1+1000+1000)=11000-y1+1000+1000 from zc (by omega) (by omega)]
      rw [show wrapx .i64 (11000-y1+1000+1000-y3)=11000-y1+1000+1000-y3 from zc (by omega) (by omega)]
      rw [show wrapx .i64 (11000-y1+1000+1000-y3+1000)=11000-y1+1000+1000-y3+1000 from zc (by omega) (by omega)]
      rw [show wrapx .i64 (11000-y1+1000+1000-y3+1000-y4)=11000-y1+1000+1000-y3+1000-y4 from zc (by omega) (by omega)]
      exact fin _ (y1+y3+y4) (by omega) (by omega) (by omega)
     ·skip
      rw [(q1 p1).1];rw [(q3 p3).1];obtain ⟨_,g1⟩:=q1 p1;generalize xq c1 f1 a=y1 at *;obtain ⟨_,g3⟩:=q3 p3;generalize xq c3 f3 c=y3 at *;rw [show wrapx .i64 (Int.ofNat 11000-y1)=11000-y1 from zc (by rw [Int.ofNat_eq_natCast];omega) (by rw [Int.ofNat_eq_natCast];omega)]
      rw [show wrapx .i64 (11000-y1+1000)=11000-y1+1000 from zc (by omega) (by omega)]
      rw [show wrapx .i64 (11000-y1+1000+1000)=11000-y1+1000+1000 from zc (by omega) (by omega)]
      rw [show wrapx .i64 (11000-y1+1000+1000-y3)=11000-y1+1000+1000-y3 from zc (by omega) (by omega)]
      rw [show wrapx .i64 (11000-y1+1000+1000-y3+1000)=11000-y1+1000+1000-y3+1000 from zc (by omega) (by omega)]
      exact fin _ (y1+y3) (by omega) (by omega) (by omega)
    ·skip
     refine Wp.ite (fun p4=>Wp.gd (by omega) ?_) fun p4=>?_
     ·skip
      rw [(q1 p1).1];rw [(q4 p4).1];obtain ⟨_,g1⟩:=q1 p1;generalize xq c1 f1 a=y1 at *;obtain ⟨_,g4⟩:=q4 p4;generalize xq c4 f4 d=y4 at *;rw [show wrapx .i64 (Int.ofNat 11000-y1)=11000-y1 from zc (by rw [Int.ofNat_eq_natCast];omega) (by rw [Int.ofNat_eq_natCast];omega)]
      rw [show wrapx .i64 (11000-y1+1000)=11000-y1+1000 from zc (by omega) (by omega)]
      rw [show wrapx .i64 (11000-y1+1000+1000)=11000-y1+1000+1000 from zc (by omega) (by omega)]
      rw [show wrapx .i64 (11000-y1+1000+1000+1000)=11000-y1+1000+1000+1000 from zc (by omega) (by omega)]
      rw [show wrapx .i64 (11000-y1+1000+1000+1000-y4)=11000-y1+1000+1000+1000-y4 from zc (by omega) (by omega)]
      exact fin _ (y1+y4) (by omega) (by omega) (by omega)
     ·skip
      rw [(q1 p1).1];obtain ⟨_,g1⟩:=q1 p1;generalize xq c1 f1 a=y1 at *;rw [show wrapx .i64 (Int.ofNat 11000-y1)=11000-y1 from zc (by rw [Int.ofNat_eq_natCast];omega) (by rw [Int.ofNat_eq_natCast];omega)]
      rw [show wrapx .i64 (11000-y1+1000)=11000-y1+1000 from zc (by omega) (by omega)]
      rw [show wrapx .i64 (11000-y1+1000+1000)=11000-y1+1000+1000 from zc (by omega) (by omega)]
      rw [show wrapx .i64 (11000-y1+1000+1000+1000)=11000-y1+1000+1000+1000 from zc (by omega) (by omega)]
      exact fin _ (y1) (by omega) (by omega) (by omega)
  ·skip
   refine Wp.ite (fun p2=>Wp.gd (by omega) ?_) fun p2=>?_
   ·skip
    refine Wp.ite (fun p3=>Wp.gd (by omega) ?_) fun p3=>?_
    ·skip
     refine Wp.ite (fun p4=>Wp.gd (by omega) ?_) fun p4=>?_
     ·skip
      rw [(q2 p2).1];rw [(q3 p3).1];rw [(q4 p4).1];obtain ⟨_,g2⟩:=q2 p2;generalize xq c2 f2 b=y2 at *;obtain ⟨_,g3⟩:=q3 p3;generalize xq c3 f3 c=y3 at *;obtain ⟨_,g4⟩:=q4 p4;generalize xq c4 f4 d=y4 at *;rw [show wrapx .i64 (Int.ofNat 12000-y2)=12000-y2 from zc (by rw [Int.ofNat_eq_natCast];omega) (by rw [Int.ofNat_eq_natCast];omega)]
      rw [show wrapx .i64 (12000-y2+1000)=12000-y2+1000 from zc (by omega) (by omega)]
      rw [show wrapx .i64 (12000-y2+1000-y3)=12000-y2+1000-y3 from zc (by omega) (by omega)]
      rw [show wrapx .i64 (12000-y2+1000-y3+1000)=12000-y2+1000-y3+1000 from zc (by omega) (by omega)]
      rw [show wrapx .i64 (12000-y2+1000-y3+1000-y4)=12000-y2+1000-y3+1000-y4 from zc (by omega) (by omega)]
      exact fin _ (y2+y3+y4) (by omega) (by omega) (by omega)
     ·skip
      rw [(q2 p2).1];rw [(q3 p3).1];obtain ⟨_,g2⟩:=q2 p2;generalize xq c2 f2 b=y2 at *;obtain ⟨_,g3⟩:=q3 p3;generalize xq c3 f3 c=y3 at *;rw [show wrapx .i64 (Int.ofNat 12000-y2)=12000-y2 from zc (by rw [Int.ofNat_eq_natCast];omega) (by rw [Int.ofNat_eq_natCast];omega)]
      rw [show wrapx .i64 (12000-y2+1000)=12000-y2+1000 from zc (by omega) (by omega)]
      rw [show wrapx .i64 (12000-y2+1000-y3)=12000-y2+1000-y3 from zc (by omega) (by omega)]
      rw [show wrapx .i64 (12000-y2+1000-y3+1000)=12000-y2+1000-y3+1000 from zc (by omega) (by omega)]
      exact fin _ (y2+y3) (by omega) (by omega) (by omega)
    ·skip
     refine Wp.ite (fun p4=>Wp.gd (by omega) ?_) fun p4=>?_
     ·skip
      rw [(q2 p2).1];rw [(q4 p4).1];obtain ⟨_,g2⟩:=q2 p2;generalize xq c2 f2 b=y2 at *;obtain ⟨_,g4⟩:=q4 p4;generalize xq c4 f4 d=y4 at *;rw [show wrapx .i64 (Int.ofNat 12000-y2)=12000-y2 from zc (by rw [Int.ofNat_eq_natCast];omega) (by rw [Int.ofNat_eq_natCast];omega)]
      rw [show wrapx .i64 (12000-y2+1000)=12000-y2+1000 from zc (by omega) (by omega)]
      rw [show wrapx .i64 (12000-y2+1000+1000)=12000-y2+1000+1000 from zc (by omega) (by omega)]
      rw [show wrapx .i64 (12000-y2+1000+1000-y4)=12000-y2+1000+1000-y4 from zc (by omega) (by omega)]
      exact fin _ (y2+y4) (by omega) (by omega) (by omega)
     ·skip
      rw [(q2 p2).1];obtain ⟨_,g2⟩:=q2 p2;generalize xq c2 f2 b=y2 at *;rw [show wrapx .i64 (Int.ofNat 12000-y2)=12000-y2 from zc (by rw [Int.ofNat_eq_natCast];omega) (by rw [Int.ofNat_eq_natCast];omega)]
      rw [show wrapx .i64 (12000-y2+1000)=12000-y2+1000 from zc (by omega) (by omega)]
      rw [show wrapx .i64 (12000-y2+1000+1000)=12000-y2+1000+1000 from zc (by omega) (by omega)]
      exact fin _ (y2) (by omega) (by omega) (by omega)
   ·skip
    refine Wp.ite (fun p3=>Wp.gd (by omega) ?_) fun p3=>?_
    ·skip
     refine Wp.ite (fun p4=>Wp.gd (by omega) ?_) fun p4=>?_
     ·skip
      rw [(q3 p3).1];rw [(q4 p4).1];obtain ⟨_,g3⟩:=q3 p3;generalize xq c3 f3 c=y3 at *;obtain ⟨_,g4⟩:=q4 p4;generalize xq c4 f4 d=y4 at *;rw [show wrapx .i64 (Int.ofNat 13000-y3)=13000-y3 from zc (by rw [Int.ofNat_eq_natCast];omega) (by rw [Int.ofNat_eq_natCast];omega)]
      rw [show wrapx .i64 (13000-y3+1000)=13000-y3+1000 from zc (by omega) (by omega)]
      rw [show wrapx .i64 (13000-y3+1000-y4)=13000-y3+1000-y4 from zc (by omega) (by omega)]
      exact fin _ (y3+y4) (by omega) (by omega) (by omega)
     ·skip
      rw [(q3 p3).1];obtain ⟨_,g3⟩:=q3 p3;generalize xq c3 f3 c=y3 at *;rw [show wrapx .i64 (Int.ofNat 13000-y3)=13000-y3 from zc (by rw [Int.ofNat_eq_natCast];omega) (by rw [Int.ofNat_eq_natCast];omega)]
      rw [show wrapx .i64 (13000-y3+1000)=13000-y3+1000 from zc (by omega) (by omega)]
      exact fin _ (y3) (by omega) (by omega) (by omega)
    ·skip
     refine Wp.ite (fun p4=>Wp.gd (by omega) ?_) fun p4=>?_
     ·skip
      rw [(q4 p4).1];obtain ⟨_,g4⟩:=q4 p4;generalize xq c4 f4 d=y4 at *;rw [show wrapx .i64 (Int.ofNat 14000-y4)=14000-y4 from zc (by rw [Int.ofNat_eq_natCast];omega) (by rw [Int.ofNat_eq_natCast];omega)]
      exact fin _ (y4) (by omega) (by omega) (by omega)
     ·skip
      exact fin _ (0) (by omega) (by omega) (by rfl)
 obtain ⟨v,e,T,h0,h1,rfl⟩:=this;exact ⟨T,h0,h1,e⟩
end Go.Proofs.YthiefohjkbdjeaaGreatDoor.scoreTurned
namespace Go.Proofs.YthiefohjkbdjeaaGreatDoor.scoreTurned
open Go Go.Sy
theorem zPG {s:List Nat} {bd a b c d:Int} {r:List AV} {t:List Nat} {nm:List Nat} {ats:List AV} (ha:Ats ats) {c1 c2 c3 c4:Int} {up:Bool} {us:List AV} (h:Us us) (hl:us.length<=30) {k:Int} {p:List Nat} {e:Int} (hF:zGG s bd a b c d r t nm ats c1 c2 c3 c4 up us=some (.tup [.int .i64 k,.str p,.int .i64 e])) (hok:e=0->okA c1 c2 c3 c4/\okA a b c d/\¬(a=0/\b=0/\c=0/\d=0)):
  Wp (zCE s bd a b c d r t nm ats c1 c2 c3 c4 up us) fun v=>∃z e',v=.tup [.int .i64 z,.int .i64 e']/\True:=by
 rw [zKZ];refine zSD hF (Wp.if (fun he=>Wp.mk ⟨_,_,rfl,trivial⟩) fun he=>Wp.if (fun hk=>Wp.mk ⟨_,_,rfl,trivial⟩) fun hk=>?_)
 have he:e=0:=by simpa using he
 obtain ⟨o1,o2,o3⟩:=hok he;obtain ⟨T,h0,h1,hs⟩:=zPF s bd a b c d r t nm ats ha c1 c2 c3 c4 up us h hl k o1 o2 o3;exact qk_i hs (Wp.mk ⟨_,_,rfl,trivial⟩)
structure Vw where
 nm:List Nat
 ats:List AV
 c1:Int
 c2:Int
 c3:Int
 c4:Int
 up:Bool
 us:List AV
def Vw.av (v:Vw):AV:=.agg [.str v.nm,.lst 2 v.ats,.int .i64 v.c1,.int .i64 v.c2,.int .i64 v.c3,.int .i64 v.c4,.bool v.up,.lst 9 v.us]
structure Vw.Ok (v:Vw):Prop where
 nm:∀c∈v.nm,c<256
 ats:Ats v.ats
 us:Us v.us
 few:v.us.length<=30
structure Nd where
 s:List Nat
 bd:Int
 a:Int
 b:Int
 c:Int
 d:Int
 r:List AV
 t:List Nat
noncomputable def chk (v:Vw):Int:=match zAG v.nm v.ats v.c1 v.c2 v.c3 v.c4 v.up v.us with
 | some (.int _ n)=>n
 | _=>0
noncomputable def sco (n:Nd) (v:Vw):Int×Int:=match zCE n.s n.bd n.a n.b n.c n.d n.r n.t v.nm v.ats v.c1 v.c2 v.c3 v.c4 v.up v.us with
 | some (.tup [.int _ z,.int _ e])=>(z,e)
 | _=>(0,0)
noncomputable def chkN (n:Nd):Int:=match zA8 n.s n.bd n.a n.b n.c n.d n.r n.t with
 | some (.int _ k)=>k
 | _=>0
theorem zVb (n:Nd) (hr:Nds n.r):zA8 n.s n.bd n.a n.b n.c n.d n.r n.t=some (.int .i64 (chkN n)):=by
 obtain ⟨_,e,k,rfl,_⟩:=zIe n.s n.bd n.a n.b n.c n.d n.r hr n.t;unfold chkN;rw [e]
theorem zV6 {v:Vw} (h:v.Ok):zAG v.nm v.ats v.c1 v.c2 v.c3 v.c4 v.up v.us=some (.int .i64 (chk v)):=by
 obtain ⟨_,e,n,rfl,_⟩:=zFa v.nm v.ats h.ats v.c1 v.c2 v.c3 v.c4 v.up v.us h.us;unfold chk;rw [e]
theorem zV7 (n:Nd) (hr:Nds n.r) {v:Vw} (h:v.Ok):zCE n.s n.bd n.a n.b n.c n.d n.r n.t v.nm v.ats v.c1 v.c2 v.c3 v.c4 v.up v.us=some (.tup [.int .i64 (sco n v).1,.int .i64 (sco n v).2]):=by
 obtain ⟨_,hF,k,p,e,rfl,hok⟩:=zVa n.s n.bd n.a n.b n.c n.d n.r hr n.t v.nm v.ats h.ats v.c1 v.c2 v.c3 v.c4 v.up v.us h.us;obtain ⟨_,e,z,e',rfl,_⟩:=zPG h.ats h.us h.few hF hok;unfold sco;rw [e]
noncomputable def rks (n:Nd):Nat->List Vw->List Rn
 | _,[]=>[]
 | i,v::r=>if (sco n v).2=0 then (Int.ofNat i,(sco n v).1,v.nm.map UInt8.ofNat)::rks n (i+1) r else rks n (i+1) r
theorem zLN (n:Nd):∀(i:Nat) (x y:List Vw),rks n i (x++y)=rks n i x++rks n (i+x.length) y
 | i,[],y=>by simp [rks]
 | i,v::x,y=>by
  have:=zLN n (i+1) x y;simp only [List.cons_append,rks,List.length_cons];rw [this,show i+1+x.length=i+(x.length+1) from by omega]
  split <;> simp
abbrev views (l:List Vw):List AV:=l.map Vw.av
theorem zLO {β:Type} {P:β->Prop} {wk:Bool} {l:List Vw} {i:Nat} (hi:i<l.length) {f:List Nat->List AV->Int->Int->Int->Int->Bool->List AV->Option β} (k:Wp (f l[i].nm l[i].ats l[i].c1 l[i].c2 l[i].c3 l[i].c4 l[i].up l[i].us) P):
  Wp (dK wk [K.agg 8,K.s,K.l 2,K.i IntKind.i64,K.i IntKind.i64,K.i IntKind.i64,K.i IntKind.i64,K.b,K.l 9] (ixN (views l) (Int.ofNat i)) f) P:=
 zLK (zJD hi) k
theorem zVc (i:Nat) (z:Int) {nm:List Nat} (h:∀c∈nm,c<256):AV.agg [.int .i64 (Int.ofNat i),.int .i64 z,.str nm]=zU.el (Int.ofNat i,z,nm.map UInt8.ofNat):=by
 show _=AV.agg [_,_,AV.str ((nm.map UInt8.ofNat).map UInt8.toNat)]
 rw [zI8 (List.all_eq_true.2 fun c hc=>by rw [Nat.blt_eq];exact h c hc)]
theorem zQL {d:List Rn}:zU.decL (d.map zU.el)=some d:=by
 induction d with
 | nil=>rfl
 | cons x d ih=>
  have e:zU.dec (zU.av x)=some x:=by
   show zNG [.int .i64 x.1,.int .i64 x.2.1,.str (x.2.2.map UInt8.toNat)]=some x
   have h1:((x.2.2.map UInt8.toNat).all fun n=>Nat.blt n 256)=true:=List.all_eq_true.2 fun c hc=>by
    obtain ⟨u,_,rfl⟩:=List.mem_map.1 hc;rw [Nat.blt_eq];exact UInt8.toNat_lt u
   have h2:(x.2.2.map UInt8.toNat).map UInt8.ofNat=x.2.2:=by
    rw [List.map_map];refine (List.map_congr_left fun u _=>?_).trans (List.map_id _)
    simp
   simp only [zNG,h1,h2]
  rw [List.map_cons];show zU.decL (.agg (zU.av x)::d.map zU.el)=_
  rw [Cod.decL,e];simp only;rw [ih]
theorem zQM {d:List Rn} (ht:totL ltN d=true) (hl:d.length<4611686018427387904):zDd (d.map zU.el)=some (.tup [],[],[(0,.vec 3 ((isort ltN d).map zU.el))]):=by
 show zLD zU 64 ltN [.sym 0,.func (.func 64) [] []] [] [(0,.vec 3 (d.map zU.el))]=_
 have e:zLC zU ltN (d.map zU.el)=some ((isort ltN d).map zU.el):=by
  unfold zLC;rw [zQL];simp only [ht,show Nat.blt d.length 4611686018427387904=true from by rw [Nat.blt_eq];exact hl,Bool.and_true]
 show (match zLC zU ltN (d.map zU.el) with
  | some es'=>some (AV.tup [],([]:Heap),[(0,VI.vec 3 es')])
  | none=>none)=_
 rw [e]
end Go.Proofs.YthiefohjkbdjeaaGreatDoor.scoreTurned
namespace Go.Proofs.YthiefohjkbdjeaaGreatDoor.scoreTurned
open Go Go.Sy
noncomputable def first:List Vw->Int
 | []=>0
 | v::r=>if chk v≠0 then chk v else first r
theorem zEc:∀{l:List Vw},first l≠0↔∃v∈l,chk v≠0
 | []=>by simp [first]
 | v::r=>by
  unfold first;by_cases h:chk v≠0
  ·rw [if_pos h];exact ⟨fun _=>⟨v,.head _,h⟩,fun _=>h⟩
  ·rw [if_neg h,zEc]
   constructor
   ·rintro ⟨w,hw,e⟩;exact ⟨w,.tail _ hw,e⟩
   ·rintro ⟨w,hw,e⟩
    rcases List.mem_cons.1 hw with rfl | hw
    ·exact absurd e h
    ·exact ⟨w,hw,e⟩
def mapN (ns:List (List Nat)):List (AV×AV):=ns.map fun s=>(.str s,.bool true)
theorem zGQ (s:List Nat):∀ns:List (List Nat),mfind false [Kd.s] (.str s) (mapN ns)=if s∈ns then some (some (.bool true)) else some none
 | []=>rfl
 | t::ns=>by
  have h:=zGQ s ns;show (match some (seqb s t) with
   | some true=>some (some (AV.bool true))
   | some false=>mfind false [Kd.s] (.str s) (mapN ns)
   | none=>none)=_
  rw [zHu];by_cases e:s=t
  ·subst e;simp
  ·simp only [e,decide_false,List.mem_cons,false_or];exact h
theorem zLP (s:List Nat):∀ns:List (List Nat),s ∉ ns->mput false [Kd.s] (.str s) (.bool true) (mapN ns)=some (mapN (ns++[s]))
 | [],_=>rfl
 | t::ns,hn=>by
  have hn':s ∉ ns:=fun h=>hn (.tail _ h)
  have h:=zLP s ns hn';show (match some (seqb s t) with
   | some true=>some ((AV.str s,AV.bool true)::mapN ns)
   | some false=>match mput false [Kd.s] (.str s) (.bool true) (mapN ns) with
    | some r'=>some ((AV.str t,AV.bool true)::r')
    | none=>none
   | none=>none)=_
  rw [zHu];have e:¬s=t:=fun h=>hn (h▸.head _)
  simp only [e,decide_false,h];rfl
inductive RkR (n:Nd) (l:List Vw):AV->Prop where
 | bad (e:Int) (h0:e≠0) (h:chkN n≠0\/first l≠0\/¬(l.map Vw.nm).Nodup):RkR n l (.tup [.nilslice,.int .i64 e])
 | ok (h1:chkN n=0) (h2:first l=0) (h3:(l.map Vw.nm).Nodup):RkR n l (.tup [.lst 3 ((isort ltN (rks n 0 l)).map zU.el),.int .i64 0])
theorem zP7 {n:Nd} {l:List Vw}:∀{i:Nat} {x:Rn},x∈rks n i l->∃j v,l[j]? = some v/\x=(Int.ofNat (i+j),(sco n v).1,v.nm.map UInt8.ofNat):=by
 induction l with
 | nil=>intro i x h;cases h
 | cons v r ih=>
  intro i x h;have tl:∀{x},x∈rks n (i+1) r->∃j w,(v::r)[j]? = some w/\x=(Int.ofNat (i+j),(sco n w).1,w.nm.map UInt8.ofNat):=fun h=>by
   obtain ⟨j,w,h1,h2⟩:=ih h;exact ⟨j+1,w,by simpa using h1,by rw [h2,show i+1+j=i+(j+1) from by omega]⟩
  unfold rks at h;split at h
  ·rcases List.mem_cons.1 h with rfl | h
   ·exact ⟨0,v,rfl,rfl⟩
   ·exact tl h
  ·exact tl h
theorem ofNat_inj {a b:List Nat} (ha:∀c∈a,c<256) (hb:∀c∈b,c<256) (h:a.map UInt8.ofNat=b.map UInt8.ofNat):a=b:=by
 have e:∀l:List Nat,(∀c∈l,c<256)->(l.map UInt8.ofNat).map UInt8.toNat=l:=fun l h=>zI8 (List.all_eq_true.2 fun c hc=>by rw [Nat.blt_eq];exact h c hc)
 rw [←e a ha,←e b hb,h]
theorem zJL {n:Nd}:∀{l:List Vw} {i:Nat},(∀v∈l,∀c∈v.nm,c<256)->(l.map Vw.nm).Nodup->totL ltN (rks n i l)=true
 | [],i,_,_=>rfl
 | v::r,i,h,hn=>by
  rw [List.map_cons,List.nodup_cons] at hn;have ih:=zJL (n:=n) (i:=i+1) (fun w hw=>h w (.tail _ hw)) hn.2
  unfold rks;split
  ·simp only [totL,ih,Bool.and_true,List.all_eq_true,Bool.or_eq_true];intro x hx;obtain ⟨j,w,h1,rfl⟩:=zP7 hx;refine zUP fun e=>?_
   have hw:=List.mem_of_getElem? h1;have:=ofNat_inj (h v (.head _)) (h w (.tail _ hw)) e;exact hn.1 (this▸List.mem_map_of_mem hw)
  ·exact ih
theorem zJM {n:Nd}:∀{l:List Vw} {i:Nat},(rks n i l).length<=l.length
 | [],i=>Nat.le_refl _
 | v::r,i=>by
  have:=zJM (n:=n) (l:=r) (i:=i+1);unfold rks;split
  ·simp only [List.length_cons];omega
  ·simp only [List.length_cons];omega
theorem zRU {n:Nd} (hr:Nds n.r) {l:List Vw} (hl:l.length<=30) (hok:∀v∈l,v.Ok) (h1:chkN n=0) (h2:first l=0) (h3:(l.map Vw.nm).Nodup):∀(f i:Nat),i<=l.length->l.length-i<f->Wp (zBi f (views l) (Int.ofNat l.length) (Int.ofNat i) n.s n.bd n.a n.b n.c n.d n.r n.t ((rks n 0 (l.take i)).map zU.el)) (RkR n l):=by
 intro f
 induction f with
 | zero=>intro i _ h;omega
 | succ f ih=>
  intro i hi hn;rw [zH0];refine Wp.lt (fun hlt=>zLO hlt ?_) fun hge=>?_
  ·have hv:=hok _ (List.getElem_mem hlt);have ht:l.take (i+1)=l.take i++[l[i]]:=by rw [List.take_add_one,List.getElem?_eq_getElem hlt];rfl
   have hlen:(l.take i).length=i:=by rw [List.length_take];omega
   have hrk:rks n 0 (l.take (i+1))=rks n 0 (l.take i)++rks n i [l[i]]:=by rw [ht,zLN,hlen,Nat.zero_add]
   refine zUZ (zV7 n hr hv) (Wp.if (fun he=>Wp.gd (zEJ (k:=32) (show ((rks n 0 (l.take i)).map zU.el).length+1<=_ by have:=zJM (n:=n) (l:=l.take i) (i:=0);rw [List.length_map];omega) (by omega)) ?_) fun he=>?_)
   ·have he:(sco n l[i]).2=0:=by simpa using he
    rw [zp (by omega)]
    have:=ih (i+1) hlt (by omega)
    rw [hrk,List.map_append] at this;have e1:rks n i [l[i]]=[(Int.ofNat i,(sco n l[i]).1,l[i].nm.map UInt8.ofNat)]:=by simp [rks,he]
    rw [e1] at this;have e2:=zVc i (sco n l[i]).1 hv.nm;rw [List.map_singleton,←e2] at this;exact this
   ·have he:¬(sco n l[i]).2=0:=by simpa using he
    rw [zp (by omega)]
    have:=ih (i+1) hlt (by omega)
    have e1:rks n i [l[i]]=[]:=by simp [rks,he]
    rw [hrk,e1,List.append_nil] at this;exact this
  ·have hi:i=l.length:=by omega
   subst hi;rw [List.take_length];refine zSE (zQM (zJL (fun v hv=>(hok v hv).nm) h3) (by have:=zJM (n:=n) (l:=l) (i:=0);omega)) (Wp.mk (.ok h1 h2 h3))
theorem zRV {n:Nd} (hr:Nds n.r) {l:List Vw} (hl:l.length<=30) (hok:∀v∈l,v.Ok) (h1:chkN n=0) (h2:first l=0):∀(f i:Nat),i<=l.length->l.length-i<f->((l.take i).map Vw.nm).Nodup->Wp (zB0 f (views l) (views l) (Int.ofNat l.length) (Int.ofNat i) n.s n.bd n.a n.b n.c n.d n.r n.t (mapN ((l.take i).map Vw.nm))) (RkR n l):=by
 intro f
 induction f with
 | zero=>intro i _ h;omega
 | succ f ih=>
  intro i hi hn hnd;rw [zH1];refine Wp.lt (fun hlt=>zLO hlt ?_) fun hge=>?_
  ·have ht:(l.take (i+1)).map Vw.nm=(l.take i).map Vw.nm++[l[i].nm]:=by rw [List.take_add_one,List.getElem?_eq_getElem hlt,List.map_append];rfl
   by_cases hm:l[i].nm∈(l.take i).map Vw.nm
   ·have e:lkR false (AV.bool false) (mfind false [Kd.s] (AV.str l[i].nm) (mapN ((l.take i).map Vw.nm)))=some (.bool true):=by
     rw [zGQ,if_pos hm];rfl
    refine qk_b e (Wp.mk (.bad 7 (by decide) (.inr (.inr fun hnd2=>?_))))
    have:((l.take (i+1)).map Vw.nm).Nodup:=hnd2.sublist ((List.take_sublist _ _).map _);rw [ht] at this;exact (List.nodup_append.1 this).2.2 _ hm _ (List.mem_singleton.2 rfl) rfl
   ·have e:lkR false (AV.bool false) (mfind false [Kd.s] (AV.str l[i].nm) (mapN ((l.take i).map Vw.nm)))=some (.bool false):=by
     rw [zGQ,if_neg hm];rfl
    refine qk_b e ?_
    rw [zCl,zLP _ _ hm,zHH,zp (by omega),←ht]
    refine ih (i+1) hlt (by omega) ?_
    rw [ht];exact List.nodup_append.2 ⟨hnd,by simp,fun a ha b hb e=>hm (by rw [List.mem_singleton] at hb;rw [←hb,←e];exact ha)⟩
  ·have hi:i=l.length:=by omega
   subst hi;rw [List.take_length] at hnd;have:=zRU hr hl hok h1 h2 hnd FUEL 0 (Nat.zero_le _) (zv (by omega))
   rw [show (views l).length=l.length from List.length_map _]
   exact this
theorem zRW {n:Nd} (hr:Nds n.r) {l:List Vw} (hl:l.length<=30) (hok:∀v∈l,v.Ok) (h1:chkN n=0):∀(f i:Nat),i<=l.length->l.length-i<f->first (l.take i)=0->Wp (zB1 f (views l) (views l) (Int.ofNat l.length) (Int.ofNat i) n.s n.bd n.a n.b n.c n.d n.r n.t) (RkR n l):=by
 intro f
 induction f with
 | zero=>intro i _ h;omega
 | succ f ih=>
  intro i hi hn hf;rw [zH2];refine Wp.lt (fun hlt=>zLO hlt ?_) fun hge=>?_
  ·have hv:=hok _ (List.getElem_mem hlt);refine qk_i (zV6 hv) (Wp.if (fun he=>?_) fun he=>?_)
   ·have he:chk l[i]≠0:=by simpa using he
    exact Wp.mk (.bad _ he (.inr (.inl (zEc.2 ⟨_,List.getElem_mem hlt,he⟩))))
   ·have he:chk l[i]=0:=by simpa using he
    rw [zp (by omega)]
    refine ih (i+1) hlt (by omega) ?_
    by_cases hz:first (l.take (i+1))=0
    ·exact hz
    ·obtain ⟨v,hv,e⟩:=zEc.1 hz;rw [List.take_add_one,List.getElem?_eq_getElem hlt] at hv;rcases List.mem_append.1 hv with hv | hv
     ·exact absurd hf (zEc.2 ⟨v,hv,e⟩)
     ·have:v=l[i]:=by simpa using hv
      exact absurd he (this▸e)
  ·have hi:i=l.length:=by omega
   subst hi;rw [List.take_length] at hf;rw [show (views l).length=l.length from List.length_map _]
   exact zRV hr hl hok h1 hf FUEL 0 (Nat.zero_le _) (zv (by omega)) .nil
theorem zKn {n:Nd} (hr:Nds n.r) {l:List Vw} (hl:l.length<=30) (hok:∀v∈l,v.Ok):Wp (zDU n.s n.bd n.a n.b n.c n.d n.r n.t (views l)) (RkR n l):=by
 rw [zK0];refine qk_i (zVb n hr) (Wp.if (fun he=>?_) fun he=>?_)
 ·exact Wp.mk (.bad _ (by simpa using he) (.inl (by simpa using he)))
 ·rw [show (views l).length=l.length from List.length_map _]
  exact zRW hr hl hok (by simpa using he) FUEL 0 (Nat.zero_le _) (zv (by omega)) rfl
end Go.Proofs.YthiefohjkbdjeaaGreatDoor.scoreTurned
namespace Go.Proofs.YthiefohjkbdjeaaGreatDoor.scoreTurned
open Go Go.Sy
def ltK (a b:Int×List UInt8):Bool:=ltN (0,a) (0,b)
theorem swoK:Go.Sort.SWO ltK:=⟨fun x=>swoN.irrefl (0,x),fun x y z=>swoN.trans (0,x) (0,y) (0,z),fun x y z=>swoN.ntrans (0,x) (0,y) (0,z)⟩
theorem zO8 (x:Rn):∀d:List Rn,(insS ltN x d).map (·.2)=insS ltK x.2 (d.map (·.2))
 | []=>rfl
 | y::d=>by
  have ih:=zO8 x d;have e:ltK x.2 y.2=ltN x y:=rfl;simp only [insS,List.map_cons,e];cases ltN x y with
  | true=>rfl
  | false=>simp only [List.map_cons,ih]
theorem zJb:∀d:List Rn,(isort ltN d).map (·.2)=isort ltK (d.map (·.2))
 | []=>rfl
 | x::d=>by
  simp only [isort,List.map_cons];rw [zO8,zJb d]
theorem zO9:∀d:List Rn,totL ltK (d.map (·.2))=totL ltN d
 | []=>rfl
 | x::d=>by
  simp only [totL,List.map_cons,zO9 d,List.all_map];rfl
noncomputable def keyV (n:Nd) (v:Vw):Int×List UInt8:=((sco n v).1,v.nm.map UInt8.ofNat)
theorem zKJ (n:Nd):∀(l:List Vw) (i:Nat),(rks n i l).map (·.2)=(l.filter fun v=>decide ((sco n v).2=0)).map (keyV n)
 | [],i=>rfl
 | v::r,i=>by
  have ih:=zKJ n r (i+1);unfold rks;by_cases h:(sco n v).2=0
  ·rw [if_pos h,List.filter_cons,if_pos (by simpa using h),List.map_cons,List.map_cons,ih];rfl
  ·rw [if_neg h,List.filter_cons,if_neg (by simpa using h),ih]
def Pn (n:Nd) (l:List Vw):Prop:=chkN n=0/\first l=0/\(l.map Vw.nm).Nodup
noncomputable def rk (n:Nd) (l:List Vw):List Rn:=isort ltN (rks n 0 l)
theorem zMA {n:Nd} {l l':List Vw} (p:l.Perm l') (h:Pn n l):Pn n l':=by
 refine ⟨h.1,?_,(p.map _).nodup_iff.1 h.2.2⟩
 by_cases hz:first l'=0
 ·exact hz
 ·obtain ⟨v,hv,e⟩:=zEc.1 hz;exact absurd h.2.1 (zEc.2 ⟨v,p.mem_iff.2 hv,e⟩)
theorem zVd {n:Nd} {l l':List Vw} (hn:∀v∈l,∀c∈v.nm,c<256) (p:l.Perm l') (h:Pn n l):(rk n l).map (·.2)=(rk n l').map (·.2):=by
 have hn':∀v∈l',∀c∈v.nm,c<256:=fun v hv=>hn v (p.mem_iff.2 hv)
 have t:=zJL (n:=n) (i:=0) hn h.2.2;have t':=zJL (n:=n) (i:=0) hn' (zMA p h).2.2;rw [←zO9] at t t';unfold rk;rw [zJb,zJb];refine zNi swoK t t' ?_
 rw [zKJ,zKJ];exact (p.filter _).map _
theorem zLQ {n:Nd} {l:List Vw} {x:Rn} (h:x∈rk n l):∃j v,l[j]? = some v/\x.1=Int.ofNat j/\x.2.2=v.nm.map UInt8.ofNat:=by
 obtain ⟨j,v,h1,rfl⟩:=zP7 (zBj.mem_iff.1 h);exact ⟨j,v,h1,by rw [Nat.zero_add],rfl⟩
theorem zRX {n:Nd} {l:List Vw}:(rk n l).length<=l.length:=by
 unfold rk;rw [zBj.length_eq];exact zJM
def idx (x:Rn):AV:=.int .i64 x.1
section
variable {β:Type} {P:β->Prop} {n:Nd} {l:List Vw}
theorem RkR.use {o:Option AV} {f:List AV->Int->Option β} (h:Wp o (RkR n l)) (k1:∀e,e≠0->¬Pn n l->Wp (f [] e) P) (k2:Pn n l->Wp (f ((rk n l).map zU.el) 0) P):Wp (dK true [K.tup 2,K.l 3,K.i IntKind.i64] o f) P:=by
 obtain ⟨v,rfl,h⟩:=h;cases h with
 | bad e h0 h=>
  have:=k1 e h0 fun hp=>by
   rcases h with h | h | h
   ·exact h hp.1
   ·exact h hp.2.1
   ·exact h hp.2.2
  exact this
 | ok h1 h2 h3=>exact k2 ⟨h1,h2,h3⟩
theorem zPa {o:Option AV} {f:List AV->Int->Option β} {e:Int} (h:o=some (.tup [.nilslice,.int .i64 e])) (k:Wp (f [] e) P):Wp (dK true [K.tup 2,K.l 1,K.i IntKind.i64] o f) P:=by
 subst h;exact k
end
def BR (n:Nd) (l:List Vw) (i s e:Int):Prop:=(¬Pn n l/\i=0/\s=0/\e≠0)\/(Pn n l/\rk n l=[]/\i=0/\s=0/\e=14)\/(Pn n l/\e=0/\∃x r,rk n l=x::r/\i=x.1/\s=x.2.1)
theorem zLR {n:Nd} (hr:Nds n.r) {l:List Vw} (hl:l.length<=30) (hok:∀v∈l,v.Ok):Wp (zEA n.s n.bd n.a n.b n.c n.d n.r n.t (views l)) fun v=>∃i s e,v=.tup [.int .i64 i,.int .i64 s,.int .i64 e]/\BR n l i s e:=by
 rw [zMe];refine RkR.use (zKn hr hl hok) (fun e h0 hp=>?_) fun hp=>?_
 ·have:(e != 0)=true:=by simpa using h0
  rw [this,zFM];exact Wp.mk ⟨0,0,e,rfl,.inl ⟨hp,rfl,rfl,h0⟩⟩
 ·rw [show ((0:Int) != 0)=false from rfl,zCl]
  cases hk:rk n l with
  | nil=>exact Wp.mk ⟨0,0,14,rfl,.inr (.inl ⟨hp,hk,rfl,rfl,rfl⟩)⟩
  | cons x r=>
   have e1:(Int.ofNat (List.map zU.el (x::r)).length==0)=false:=by
    rw [List.map_cons,List.length_cons];rfl
   rw [e1,zCl];have e2:ixN (List.map zU.el (x::r)) 0=some (.agg [.int .i64 x.1,.int .i64 x.2.1,.str (x.2.2.map UInt8.toNat)]):=rfl;exact zKE e2 (zKE e2 (Wp.mk ⟨_,_,_,rfl,.inr (.inr ⟨hp,rfl,x,r,hk,rfl,rfl⟩)⟩))
theorem zQN (R:List Rn) (hR:R.length<=30):∀(f i:Nat),i<=R.length->R.length-i<f->Wp (zBQ f (R.map zU.el) (Int.ofNat R.length) (Int.ofNat i) ((R.take i).map idx)) fun v=>v=.tup [.lst 1 (R.map idx),.int .i64 0]:=by
 intro f
 induction f with
 | zero=>intro i _ h;omega
 | succ f ih=>
  intro i hi hn;rw [zHo];refine Wp.lt (fun hlt=>?_) fun hge=>?_
  ·have e:ixN (R.map zU.el) (Int.ofNat i)=some (.agg [.int .i64 R[i].1,.int .i64 R[i].2.1,.str (R[i].2.2.map UInt8.toNat)]):=zJD hlt;refine zKE e (Wp.gd (zEJ (k:=8) (show ((R.take i).map idx).length+1<=_ by rw [List.length_map,List.length_take];omega) (by omega)) ?_)
   rw [zp (by omega)]
   have:=ih (i+1) hlt (by omega)
   rw [List.take_add_one,List.getElem?_eq_getElem hlt,List.map_append] at this;exact this
  ·have hi:i=R.length:=by omega
   subst hi;rw [List.take_length];exact Wp.mk rfl
theorem zJc {n:Nd} (hr:Nds n.r) {l:List Vw} (hl:l.length<=30) (hok:∀v∈l,v.Ok):Wp (zDv n.s n.bd n.a n.b n.c n.d n.r n.t (views l)) fun v=>(¬Pn n l/\∃e,e≠0/\v=.tup [.nilslice,.int .i64 e])\/(Pn n l/\v=.tup [.lst 1 ((rk n l).map idx),.int .i64 0]):=by
 rw [zJ4];refine RkR.use (zKn hr hl hok) (fun e h0 hp=>?_) fun hp=>?_
 ·have:(e != 0)=true:=by simpa using h0
  rw [this,zFM];exact Wp.mk (.inl ⟨hp,e,h0,rfl⟩)
 ·rw [show ((0:Int) != 0)=false from rfl,zCl,show ((rk n l).map zU.el).length=(rk n l).length from List.length_map _]
  have hR:(rk n l).length<=30:=Nat.le_trans zRX hl;exact (zQN (rk n l) hR FUEL 0 (Nat.zero_le _) (zv (by omega))).mono fun v h=>.inr ⟨hp,h⟩
theorem zSL {l:List Vw} (hl:l.length<=2000000):Wp (zBx (views l)) fun v=>∃b,v=.bool b/\(b=true->l.length<=30/\∀v∈l,v.us.length<=30):=by
 have loop:∀(f i:Nat),i<=l.length->l.length-i<f->(∀v∈l.take i,v.us.length<=30)->Wp (zAo f (views l) (Int.ofNat i)) fun v=>∃b,v=.bool b/\(b=true->l.length<=30/\∀v∈l,v.us.length<=30):=by
  intro f
  induction f with
  | zero=>intro i _ h;omega
  | succ f ih=>
   intro i hi hn hs;rw [zEB,show (views l).length=l.length from List.length_map _]
   refine Wp.lt (fun hlt=>zLO hlt (Wp.ite (fun _=>Wp.mk ⟨false,rfl,fun h=>by cases h⟩) fun h=>?_)) fun hge=>?_
   ·rw [zp (by omega)]
    refine ih (i+1) hlt (by omega) fun v hv=>?_
    rw [List.take_add_one,List.getElem?_eq_getElem hlt] at hv;rcases List.mem_append.1 hv with hv | hv
    ·exact hs v hv
    ·have:v=l[i]:=by simpa using hv
     rw [Int.ofNat_eq_natCast] at h;subst this;omega
   ·have hi:i=l.length:=by omega
    subst hi;rw [List.take_length] at hs;refine Wp.mk ⟨_,rfl,fun h=>⟨?_,hs⟩⟩
    have:=of_decide_eq_true h;rw [Int.ofNat_eq_natCast] at this;omega
 rw [zE8];exact loop FUEL 0 (Nat.zero_le _) (zv (by omega)) fun v hv=>by cases hv
theorem zVe (x:Int) {n:Nat} (h0:0<n) (h1:n<=30):∃k:Nat,k<n/\zCd x (Int.ofNat n)=some (.int .i64 (Int.ofNat k)):=by
 have hn:(0:Int)<(n:Int):=by omega
 have b1:Int.tmod x n<n:=Int.tmod_lt_of_pos x hn;have b2:-(n:Int)<Int.tmod x n:=by
  rcases Int.le_total 0 x with hx | hx
  ·have:=Int.tmod_nonneg (n:Int) hx;omega
  ·have h:=Int.neg_tmod (-x) (n:Int);rw [Int.neg_neg] at h;rw [h];have:=Int.tmod_lt_of_pos (-x) hn;omega
 have e:Int.tmod (wrapx .i64 (Int.tmod x n+n)) n=Int.ofNat ((Int.tmod (Int.tmod x n+n) n).toNat):=by
  rw [zc (by omega) (by omega),Int.ofNat_eq_natCast]
  have:=Int.tmod_nonneg (n:Int) (show 0<=Int.tmod x n+n by omega)
  omega
 refine ⟨(Int.tmod (Int.tmod x n+n) n).toNat,?_,?_⟩
 ·have h1:=Int.tmod_lt_of_pos (Int.tmod x n+n) hn;have h2:=Int.tmod_nonneg (n:Int) (show 0<=Int.tmod x n+n by omega)
  omega
 ·refine zJI ?_
  rw [zGl];refine Wp.ite (fun h=>?_) fun _=>Wp.gd ?_ (Wp.gd ?_ (Wp.mk ?_))
  ·rw [Int.ofNat_eq_natCast] at h;omega
  ·rw [Int.ofNat_eq_natCast];omega
  ·rw [Int.ofNat_eq_natCast];omega
  ·rw [Int.ofNat_eq_natCast n,e]
theorem zKK {l l':List Vw} (hn:∀v∈l,∀c∈v.nm,c<256) (hn':∀v∈l',∀c∈v.nm,c<256) {R R':List Rn} (hR:R.length<=30) (m1:∀x∈R,∃j v,l[j]? = some v/\x.1=Int.ofNat j/\x.2.2=v.nm.map UInt8.ofNat) (m2:∀x∈R',∃j v,l'[j]? = some v/\x.1=Int.ofNat j/\x.2.2=v.nm.map UInt8.ofNat) (he:R.map (·.2)=R'.map (·.2))
  {i9 e11 j12:Int} (h1:e11≠0->R=[]) (h2:e11=0->∃x r x' r',R=x::r/\R'=x'::r'/\i9=x.1/\j12=x'.1):∀(f m:Nat),m<=R.length->R.length-m<f->Wp (zV f (views l) (views l') i9 e11 j12 (R.map idx) (R'.map idx) (Int.ofNat m)) fun v=>v=.bool true:=by
 have hll:R.length=R'.length:=by have:=congrArg List.length he;simpa using this
 have same:∀(m:Nat) (h:m<R.length) (h':m<R'.length),∃j v j' v',l[j]? = some v/\R[m].1=Int.ofNat j/\l'[j']? = some v'/\R'[m].1=Int.ofNat j'/\v.nm=v'.nm:=fun m h h'=>by
  obtain ⟨j,v,a1,a2,a3⟩:=m1 _ (List.getElem_mem h);obtain ⟨j',v',b1,b2,b3⟩:=m2 _ (List.getElem_mem h');refine ⟨j,v,j',v',a1,a2,b1,b2,?_⟩
  have e:R[m].2=R'[m].2:=by
   have:=congrArg (fun l=>l[m]?) he
   simp only [List.getElem?_map,List.getElem?_eq_getElem h,List.getElem?_eq_getElem h',Option.map_some,Option.some.injEq] at this;exact this
  rw [e] at a3;exact ofNat_inj (hn v (List.mem_of_getElem? a1)) (hn' v' (List.mem_of_getElem? b1)) (a3.symm.trans b3)
 have at_:∀{β:Type} {P:β->Prop} {wk:Bool} {l:List Vw} {j:Nat} {v:Vw} {f:List Nat->List AV->Int->Int->Int->Int->Bool->List AV->Option β},l[j]? = some v->Wp (f v.nm v.ats v.c1 v.c2 v.c3 v.c4 v.up v.us) P →
   Wp (dK wk [K.agg 8,K.s,K.l 2,K.i IntKind.i64,K.i IntKind.i64,K.i IntKind.i64,K.i IntKind.i64,K.b,K.l 9] (ixN (views l) (Int.ofNat j)) f) P:=fun {β P wk l j v f} h k=>by
  obtain ⟨hlt,rfl⟩:=List.getElem?_eq_some_iff.1 h;exact zLO hlt k
 intro f
 induction f with
 | zero=>intro i _ h;omega
 | succ f ih=>
  intro m hm hf;rw [zCZ,show (R.map idx).length=R.length from List.length_map _]
  refine Wp.lt (fun hlt=>?_) fun hge=>?_
  ·obtain ⟨j,v,j',v',a1,a2,b1,b2,e⟩:=same m hlt (hll▸hlt)
   have q1:ixN (R.map idx) (Int.ofNat m)=some (.int .i64 (Int.ofNat j)):=by rw [←a2];exact zJD hlt
   have q2:ixN (R'.map idx) (Int.ofNat m)=some (.int .i64 (Int.ofNat j')):=by rw [←b2];exact zJD (hll▸hlt)
   refine qk_i q1 (at_ a1 (qk_i q2 (at_ b1 ?_)))
   rw [e,zMP,zp (by omega)]
   exact ih (m+1) hlt (by omega)
  ·by_cases hz:e11=0
   ·obtain ⟨x,r,x',r',rfl,rfl,rfl,rfl⟩:=h2 hz;obtain ⟨j,v,j',v',a1,a2,b1,b2,e⟩:=same 0 (Nat.succ_pos _) (Nat.succ_pos _);have a2:x.1=Int.ofNat j:=a2;have b2:x'.1=Int.ofNat j':=b2;subst hz;have q1:ixN ((x::r).map idx) 0=some (.int .i64 (Int.ofNat j)):=by rw [←a2];rfl
    have q2:ixN ((x'::r').map idx) 0=some (.int .i64 (Int.ofNat j')):=by rw [←b2];rfl
    rw [a2,b2];refine at_ a1 (at_ b1 ?_)
    rw [e,zMP,zFM];refine Wp.ite (fun _=>qk_i q1 ?_) fun h=>?_
    ·rw [show (Int.ofNat j==Int.ofNat j)=true from by simp,zFM]
     exact qk_i q2 (Wp.mk (by simp))
    ·exact absurd (show (Int.ofNat (x::r).length) > 0 from by rw [List.length_cons,Int.ofNat_eq_natCast];omega) h
   ·have e0:=h1 hz;subst e0;have:(e11 != 0)=true:=by simpa using hz
    rw [this];exact Wp.mk rfl
theorem law (n:Nd) (hr:Nds n.r) (l:List Vw) (hl:l.length<=2000000) (hok:∀v∈l,(∀c∈v.nm,c<256)/\Ats v.ats/\Us v.us) (by2:Int):zAH n.s n.bd n.a n.b n.c n.d n.r n.t (views l) by2=some (.bool true):=by
 refine zJI ?_
 rw [zDI];refine qk_b zRK (Wp.if (fun h=>(by cases h)) fun _=>wk_b (zSL hl) fun b hb=>Wp.if (fun _=>Wp.mk rfl) fun hb'=>Wp.if (fun _=>Wp.mk rfl) fun h0=>?_)
 have hb':b=true:=by simpa using hb'
 obtain ⟨hl,hfew⟩:=hb hb';have hok:∀v∈l,v.Ok:=fun v hv=>⟨(hok v hv).1,(hok v hv).2.1,(hok v hv).2.2,hfew v hv⟩
 have e0:(views l).length=l.length:=List.length_map _;rw [e0] at h0;have hpos:0<l.length:=by
  rcases Nat.eq_zero_or_pos l.length with h | h
  ·rw [h] at h0;cases h0
  ·exact h
 rw [zDe,e0];obtain ⟨k,hk,hp⟩:=zVe by2 hpos hl;refine qk_i hp ?_
 have et:List.take (Int.toNat (Int.ofNat l.length)) (views l)=views l:=by
  show List.take l.length (views l)=_
  rw [←e0,List.take_length]
 have ek:Int.toNat (Int.ofNat k)=k:=rfl;have hT:chunks 8 0 []++List.drop (Int.toNat (Int.ofNat k)) (List.take (Int.toNat (Int.ofNat l.length)) (views l))++List.drop (Int.toNat 0) (List.take (Int.toNat (Int.ofNat k)) (views l))=views (l.drop k++l.take k):=by
  rw [et,ek];show []++List.drop k (views l)++List.drop 0 (List.take k (views l))=_
  rw [List.nil_append,List.drop_zero];simp only [views,List.map_append,List.map_drop,List.map_take]
 rw [hT];have b0:0<=Int.ofNat k/\Int.ofNat k<=Int.ofNat l.length:=⟨Int.natCast_nonneg _,Int.ofNat_le.2 (by omega)⟩
 have c1:(chunks 8 0 ([]:List AV)).length+(List.drop (Int.toNat (Int.ofNat k)) (List.take (Int.toNat (Int.ofNat l.length)) (views l))).length<=2000001:=by
  rw [et,List.length_drop,e0];show 0+_<=_
  omega
 have c2:(chunks 8 0 ([]:List AV)++List.drop (Int.toNat (Int.ofNat k)) (List.take (Int.toNat (Int.ofNat l.length)) (views l))).length+(List.drop (Int.toNat 0) (List.take (Int.toNat (Int.ofNat k)) (views l))).length<=2000001:=by
  rw [List.length_append,et,List.length_drop,List.length_drop,List.length_take,e0];show 0+_+_<=_
  omega
 refine Wp.gd b0 (Wp.gd (zEJ c1 (by omega)) (Wp.gd b0 (Wp.gd (zEJ c2 (by omega)) ?_)))
 generalize hl':l.drop k++l.take k=l';have p:l.Perm l':=by
  rw [←hl'];have:=List.perm_append_comm (l₁:=l.take k) (l₂:=l.drop k)
  rwa [List.take_append_drop] at this
 have hll':l'.length<=30:=by rw [←p.length_eq];exact hl
 have hok':∀v∈l',v.Ok:=fun v hv=>hok v (p.mem_iff.2 hv)
 have hn:∀v∈l,∀c∈v.nm,c<256:=fun v hv=>(hok v hv).nm
 have hn':∀v∈l',∀c∈v.nm,c<256:=fun v hv=>(hok' v hv).nm
 refine zOW (zLR hr hl hok) fun i s e hB=>zOW (zLR hr hll' hok') fun j t f hB'=>?_
 obtain ⟨v,ev,hv⟩:=zJc hr hl hok;obtain ⟨v',ev',hv'⟩:=zJc hr hll' hok';have hR:(rk n l).length<=30:=Nat.le_trans zRX hl;by_cases hp:Pn n l
 ·have hp':=zMA p hp;have heq:=zVd hn p hp;rcases hv with ⟨h,_⟩ | ⟨_,rfl⟩
  ·exact absurd hp h
  rcases hv' with ⟨h,_⟩ | ⟨_,rfl⟩
  ·exact absurd hp' h
  refine zOX ev (zOX ev' ?_)
  have hlen:(rk n l).length=(rk n l').length:=by have:=congrArg List.length heq;simpa using this
  have e3:(Int.ofNat ((rk n l).map idx).length != Int.ofNat ((rk n l').map idx).length)=false:=by
   rw [List.length_map,List.length_map,hlen];simp
  rcases hB with ⟨h,_⟩ | ⟨_,hk0,rfl,rfl,rfl⟩ | ⟨_,rfl,x,r,hk0,rfl,rfl⟩
  ·exact absurd hp h
  ·rcases hB' with ⟨h,_⟩ | ⟨_,hk1,rfl,rfl,rfl⟩ | ⟨_,rfl,x,r,hk1,rfl,rfl⟩
   ·exact absurd hp' h
   ·rw [e3];refine Wp.if (fun h=>(by cases h)) fun _=>Wp.if (fun h=>(by cases h)) fun _=>Wp.if (fun h=>(by cases h)) fun _=>?_
    rw [zAe,zCl,zAd];exact zKK hn hn' hR (fun x hx=>zLQ hx) (fun x hx=>zLQ hx) heq (fun _=>hk0) (fun h=>by cases h) FUEL 0 (Nat.zero_le _) (zv (by omega))
   ·rw [hk0,hk1] at hlen;cases hlen
  ·rcases hB' with ⟨h,_⟩ | ⟨_,hk1,rfl,rfl,rfl⟩ | ⟨_,rfl,x',r',hk1,rfl,rfl⟩
   ·exact absurd hp' h
   ·rw [hk0,hk1] at hlen;cases hlen
   ·rw [e3];have ex:x.2=x'.2:=by
     rw [hk0,hk1,List.map_cons,List.map_cons] at heq;exact (List.cons.inj heq).1
    refine Wp.if (fun h=>(by cases h)) fun _=>Wp.if (fun h=>?_) fun _=>Wp.if (fun h=>(by cases h)) fun _=>?_
    ·rw [ex] at h;simp at h
    rw [zAe,zCl,zAd];exact zKK hn hn' hR (fun x hx=>zLQ hx) (fun x hx=>zLQ hx) heq (fun h=>absurd rfl h) (fun _=>⟨x,r,x',r',hk0,hk1,rfl,rfl⟩) FUEL 0 (Nat.zero_le _) (zv (by omega))
 ·have hp':¬Pn n l':=fun h=>hp (zMA p.symm h)
  rcases hv with ⟨_,e1,he1,rfl⟩ | ⟨h,_⟩
  rotate_left
  ·exact absurd h hp
  rcases hv' with ⟨_,e2,he2,rfl⟩ | ⟨h,_⟩
  rotate_left
  ·exact absurd h hp'
  refine zPa ev (zPa ev' ?_)
  rcases hB with ⟨_,rfl,rfl,he⟩ | ⟨h,_⟩ | ⟨h,_⟩
  rotate_left
  ·exact absurd h hp
  ·exact absurd h hp
  rcases hB' with ⟨_,rfl,rfl,hf⟩ | ⟨h,_⟩ | ⟨h,_⟩
  rotate_left
  ·exact absurd h hp'
  ·exact absurd h hp'
  have z:∀{x:Int},x≠0->(x==0)=false:=fun h=>by simpa using h
  rw [z he,z hf,z he1,z he2];refine Wp.if (fun h=>(by cases h)) fun _=>Wp.if (fun h=>(by cases h)) fun _=>Wp.if (fun h=>(by cases h)) fun _=>?_
  rw [show (Int.ofNat ([]:List AV).length != Int.ofNat ([]:List AV).length)=false from rfl,zAe,zCl,zAd]
  exact zKK (R:=[]) (R':=[]) hn hn' (by decide) (fun x hx=>by cases hx) (fun x hx=>by cases hx) rfl (fun _=>rfl) (fun h=>absurd h he) FUEL 0 (Nat.zero_le _) (zv (n:=0) (by omega))
end Go.Proofs.YthiefohjkbdjeaaGreatDoor.scoreTurned
namespace Go.Proofs.YthiefohjkbdjeaaGreatDoor.scoreTurned
open Go Go.Sy
def zPb:List CD:=[.int .i64,.str,.str,.int .i64,.int .i64,.int .i64]
def zLS:List CD:=[.str,.int .i64,.int .i64,.int .i64,.int .i64,.int .i64,.sl zPb false,.str]
def zRY:List CD:=[.str,.str]
def zTY:List CD:=[.str,.int .i64,.int .i64,.int .i64,.int .i64,.int .i64,.int .i64,.str,.bool]
def zJd:List CD:=[.str,.sl zRY false,.int .i64,.int .i64,.int .i64,.int .i64,.bool,.sl zTY false]
section
variable {N:Nat}
theorem zE5 {a:AV} (h:CD.Ok N .str a):∃s,a=.str s/\s.length<=N:=by cases h with | str l h hl hn=>exact ⟨l,rfl,hn⟩
theorem zSM {a:AV} (h:CD.Ok N .str a):∃s,a=.str s/\∀z∈s,z<256:=by cases h with | str l h hl hn=>exact ⟨l,rfl,h⟩
theorem zAF {a:AV} (h:CD.Ok N (.int .i64) a):∃n,a=.int .i64 n/\-9223372036854775808<=n/\n<=9223372036854775807:=by cases h with | int k n h=>exact ⟨n,rfl,h.1,h.2⟩
theorem zP8 {a:AV} (h:CD.Ok N .bool a):∃b,a=.bool b:=by cases h with | bool b=>exact ⟨b,rfl⟩
theorem zx {c:CD} {cs:List CD} {l:List AV} (h:CD.Oks N (c::cs) l):∃a r,l=a::r/\CD.Ok N c a/\CD.Oks N cs r:=by cases h with | cons h hs=>exact ⟨_,_,rfl,h,hs⟩
theorem zHa {l:List AV} (h:CD.Oks N [] l):l=[]:=by cases h;rfl
theorem zNJ {es:List CD} {a:AV} (h:CD.Ok N (.sl es false) a):∃xs:List (List AV),a=.lst es.length (xs.map .agg)/\(∀x∈xs,CD.Oks N es x)/\xs.length<=N:=by cases h with | agg es xs h hn=>exact ⟨xs,rfl,h,hn⟩
theorem zVf {x:List AV} (h:CD.Oks N zPb x):∃k s t n l r,x=[.int .i64 k,.str s,.str t,.int .i64 n,.int .i64 l,.int .i64 r]/\-9223372036854775808<=n/\n<=9223372036854775807/\s.length<=N/\t.length<=N:=by
 obtain ⟨_,_,rfl,h1,h⟩:=zx h;obtain ⟨_,_,rfl,h2,h⟩:=zx h;obtain ⟨_,_,rfl,h3,h⟩:=zx h;obtain ⟨_,_,rfl,h4,h⟩:=zx h;obtain ⟨_,_,rfl,h5,h⟩:=zx h;obtain ⟨_,_,rfl,h6,h⟩:=zx h;obtain rfl:=zHa h;obtain ⟨k,rfl,_⟩:=zAF h1;obtain ⟨s,rfl,hs⟩:=zE5 h2;obtain ⟨t,rfl,ht⟩:=zE5 h3;obtain ⟨n,rfl,hn⟩:=zAF h4;obtain ⟨l,rfl,_⟩:=zAF h5;obtain ⟨r,rfl,_⟩:=zAF h6;exact ⟨k,s,t,n,l,r,rfl,hn.1,hn.2,hs,ht⟩
theorem zV8 {a:AV} (hN:N<=2000000) (h:CD.Ok N (.sl zPb false) a):∃r,a=.lst 6 r/\Nds r:=by
 obtain ⟨xs,rfl,h1,h2⟩:=zNJ h;refine ⟨_,rfl,fun e he=>?_,by rw [List.length_map];omega⟩
 obtain ⟨x,hx,rfl⟩:=List.mem_map.1 he;obtain ⟨k,s,t,n,l,r,rfl,n0,n1,hs,ht⟩:=zVf (h1 x hx);exact ⟨k,s,t,n,l,r,rfl,n0,n1,by omega,by omega⟩
theorem zV9 {a:AV} (hN:N<=2000000) (h:CD.Ok N (.sl zRY false) a):∃r,a=.lst 2 r/\Ats r:=by
 obtain ⟨xs,rfl,h1,h2⟩:=zNJ h;refine ⟨_,rfl,fun e he=>?_,by rw [List.length_map];omega⟩
 obtain ⟨x,hx,rfl⟩:=List.mem_map.1 he;obtain ⟨_,_,rfl,k1,h⟩:=zx (h1 x hx);obtain ⟨_,_,rfl,k2,h⟩:=zx h;obtain rfl:=zHa h;obtain ⟨s,rfl,_⟩:=zE5 k1;obtain ⟨t,rfl,_⟩:=zE5 k2;exact ⟨s,t,rfl⟩
theorem zWq {a:AV} (hN:N<=2000000) (h:CD.Ok N (.sl zTY false) a):∃r,a=.lst 9 r/\Us r:=by
 obtain ⟨xs,rfl,h1,h2⟩:=zNJ h;refine ⟨_,rfl,fun e he=>?_,by rw [List.length_map];omega⟩
 obtain ⟨x,hx,rfl⟩:=List.mem_map.1 he;obtain ⟨_,_,rfl,k1,h⟩:=zx (h1 x hx);obtain ⟨_,_,rfl,k2,h⟩:=zx h;obtain ⟨_,_,rfl,k3,h⟩:=zx h;obtain ⟨_,_,rfl,k4,h⟩:=zx h;obtain ⟨_,_,rfl,k5,h⟩:=zx h;obtain ⟨_,_,rfl,k6,h⟩:=zx h;obtain ⟨_,_,rfl,k7,h⟩:=zx h;obtain ⟨_,_,rfl,k8,h⟩:=zx h;obtain ⟨_,_,rfl,k9,h⟩:=zx h;obtain rfl:=zHa h;obtain ⟨x1,rfl,_⟩:=zE5 k1;obtain ⟨x2,rfl,_⟩:=zAF k2;obtain ⟨x3,rfl,_⟩:=zAF k3;obtain ⟨x4,rfl,_⟩:=zAF k4;obtain ⟨x5,rfl,_⟩:=zAF k5;obtain ⟨x6,rfl,_⟩:=zAF k6;obtain ⟨x7,rfl,_⟩:=zAF k7;obtain ⟨x8,rfl,_⟩:=zE5 k8;obtain ⟨x9,rfl⟩:=zP8 k9;exact ⟨_,_,_,_,_,_,_,_,_,rfl⟩
theorem zVg {x:List AV} (hN:N<=2000000) (h:CD.Oks N zLS x):∃s bd a b c d r t,x=[.str s,.int .i64 bd,.int .i64 a,.int .i64 b,.int .i64 c,.int .i64 d,.lst 6 r,.str t]/\Nds r:=by
 obtain ⟨_,_,rfl,k1,h⟩:=zx h;obtain ⟨_,_,rfl,k2,h⟩:=zx h;obtain ⟨_,_,rfl,k3,h⟩:=zx h;obtain ⟨_,_,rfl,k4,h⟩:=zx h;obtain ⟨_,_,rfl,k5,h⟩:=zx h;obtain ⟨_,_,rfl,k6,h⟩:=zx h;obtain ⟨_,_,rfl,k7,h⟩:=zx h;obtain ⟨_,_,rfl,k8,h⟩:=zx h;obtain rfl:=zHa h;obtain ⟨x1,rfl,_⟩:=zE5 k1;obtain ⟨x2,rfl,_⟩:=zAF k2;obtain ⟨x3,rfl,_⟩:=zAF k3;obtain ⟨x4,rfl,_⟩:=zAF k4;obtain ⟨x5,rfl,_⟩:=zAF k5;obtain ⟨x6,rfl,_⟩:=zAF k6;obtain ⟨x7,rfl,hr⟩:=zV8 hN k7;obtain ⟨x8,rfl,_⟩:=zE5 k8;exact ⟨_,_,_,_,_,_,_,_,rfl,hr⟩
theorem zVh {x:List AV} (hN:N<=2000000) (h:CD.Oks N zJd x):∃nm ats c1 c2 c3 c4 up us,x=[.str nm,.lst 2 ats,.int .i64 c1,.int .i64 c2,.int .i64 c3,.int .i64 c4,.bool up,.lst 9 us]/\(∀z∈nm,z<256)/\Ats ats/\Us us:=by
 obtain ⟨_,_,rfl,k1,h⟩:=zx h;obtain ⟨_,_,rfl,k2,h⟩:=zx h;obtain ⟨_,_,rfl,k3,h⟩:=zx h;obtain ⟨_,_,rfl,k4,h⟩:=zx h;obtain ⟨_,_,rfl,k5,h⟩:=zx h;obtain ⟨_,_,rfl,k6,h⟩:=zx h;obtain ⟨_,_,rfl,k7,h⟩:=zx h;obtain ⟨_,_,rfl,k8,h⟩:=zx h;obtain rfl:=zHa h;obtain ⟨x1,rfl,hb⟩:=zSM k1;obtain ⟨x2,rfl,ha⟩:=zV9 hN k2;obtain ⟨x3,rfl,_⟩:=zAF k3;obtain ⟨x4,rfl,_⟩:=zAF k4;obtain ⟨x5,rfl,_⟩:=zAF k5;obtain ⟨x6,rfl,_⟩:=zAF k6;obtain ⟨x7,rfl⟩:=zP8 k7;obtain ⟨x8,rfl,hu⟩:=zWq hN k8;exact ⟨_,_,_,_,_,_,_,_,rfl,hb,ha,hu⟩
theorem zSN {xs:List (List AV)} (hN:N<=2000000) (h:∀x∈xs,CD.Oks N zJd x):∃l:List Vw,xs.map AV.agg=views l/\l.length=xs.length/\∀v∈l,(∀c∈v.nm,c<256)/\Ats v.ats/\Us v.us:=by
 induction xs with
 | nil=>exact ⟨[],rfl,rfl,fun v hv=>by cases hv⟩
 | cons x xs ih=>
  obtain ⟨l,h1,h2,h3⟩:=ih fun y hy=>h y (.tail _ hy)
  obtain ⟨nm,ats,c1,c2,c3,c4,up,us,rfl,hb,ha,hu⟩:=zVh hN (h x (.head _));refine ⟨⟨nm,ats,c1,c2,c3,c4,up,us⟩::l,by rw [List.map_cons,h1];rfl,by rw [List.length_cons,List.length_cons,h2],fun v hv=>?_⟩
  rcases List.mem_cons.1 hv with rfl | hv
  ·exact ⟨hb,ha,hu⟩
  ·exact h3 v hv
theorem zWa {x:List AV} {y:AV} (hN:N<=2000000) (k:Int) (hx:CD.Oks N zLS x) (hy:CD.Ok N (.sl zJd false) y):FnT Tryz.prog G0 5 [.agg x,y,.int .i64 k] [] 0 (.bool true) [] 0:=by
 have px:=hx.pp;have py:=hy.pp;obtain ⟨s,bd,a,b,c,d,r,t,rfl,hr⟩:=zVg hN hx;obtain ⟨xs,rfl,h1,h2⟩:=zNJ hy;obtain ⟨l,e1,e2,e3⟩:=zSN hN h1;have e:=law ⟨s,bd,a,b,c,d,r,t⟩ hr l (by omega) e3 k
 rw [←e1] at e;have hf:zCV Tryz.prog G0 5 (gv FUEL G0 (T72 FUEL) (O72 FUEL) zFE 1 5):=(zXX FUEL).at;refine (hf _ _ (fun z hz=>?_) (by unfold zAH at e;exact e)).2.2 [] 0
 rcases List.mem_cons.1 hz with rfl | hz
 ·exact .agg _ px
 rcases List.mem_cons.1 hz with rfl | hz
 ·exact py
 ·rw [List.mem_singleton.1 hz];exact .int _ _
theorem zRZ {v:Value} (h:v.oneCell'=true):v.cells.toList=[v]:=by cases v <;> first | rfl | cases h
end
end Go.Proofs.YthiefohjkbdjeaaGreatDoor.scoreTurned
namespace Go.Proofs.YthiefohjkbdjeaaGreatDoor.scoreTurned
open Go Go.Sy
def zLT (H:Type):BK H:=⟨Rows.uptoBulk,Rows.uptoBulkAll,fun _=>rfl,fun d=>by
 cases d with
 | lit l=>cases l <;> exact Nat.succ_pos _
 | _=>exact Nat.succ_pos _,fun _ _=>rfl,fun _=>rfl,rfl,fun _ _=>rfl⟩
theorem zVi:cdOf Tryz.prog 9 37=some zLS:=by kernel_rfl
theorem zSO:cdOf Tryz.prog 10 52=some [.sl zJd false]:=by kernel_rfl
end Go.Proofs.YthiefohjkbdjeaaGreatDoor.scoreTurned
