/- THE LAW OF THE LEAN FUNCTIONS, IN PLAIN LEAN: whatever the arguments, it says true. No condition. -/
import Derived.Test.YthiefohjkbdjeaaGreatDoorScoreBoundsS2
import Derived.Test.YthiefohjkbdjeaaGreatDoorRows
set_option linter.unusedVariables false
set_option linter.unusedSimpArgs false
namespace Go.Proofs.YthiefohjkbdjeaaGreatDoor.scoreBounds
open Go Go.Sy
theorem qk_u {β:Type} {wk:Bool} {P:β->Prop} {f:(Int)->Option β} {o:Option (AV)} {x1:Int} (h:o=some (.int Go.IntKind.u8 x1)) (k:Wp (f x1) P):Wp (dK wk [K.i IntKind.u8] o f) P:=by
 subst h
 exact k
theorem ek_A4iiii {β:Type} {wk:Bool} {f:(Int)->(Int)->(Int)->(Int)->Option β} (x2:Int) (x3:Int) (x4:Int) (x5:Int):dK wk [K.agg 4,K.i IntKind.i64,K.i IntKind.i64,K.i IntKind.i64,K.i IntKind.i64] (some (.agg [.int Go.IntKind.i64 x2,.int Go.IntKind.i64 x3,.int Go.IntKind.i64 x4,.int Go.IntKind.i64 x5])) f=f x2 x3 x4 x5:=rfl
theorem qk_A4iiii {β:Type} {wk:Bool} {P:β->Prop} {f:(Int)->(Int)->(Int)->(Int)->Option β} {o:Option (AV)} {x2:Int} {x3:Int} {x4:Int} {x5:Int} (h:o=some (.agg [.int Go.IntKind.i64 x2,.int Go.IntKind.i64 x3,.int Go.IntKind.i64 x4,.int Go.IntKind.i64 x5])) (k:Wp (f x2 x3 x4 x5) P):Wp (dK wk [K.agg 4,K.i IntKind.i64,K.i IntKind.i64,K.i IntKind.i64,K.i IntKind.i64] o f) P:=by
 subst h
 exact k
theorem ek_i {β:Type} {wk:Bool} {f:(Int)->Option β} (x1:Int):dK wk [K.i IntKind.i64] (some (.int Go.IntKind.i64 x1)) f=f x1:=rfl
theorem wk_i {β:Type} {wk:Bool} {P:β->Prop} {f:(Int)->Option β} {o:Option (AV)} {R:(Int)->Prop} (h:Wp o fun v=>∃(x1:Int),v=(.int Go.IntKind.i64 x1)/\R x1) (k:∀(x1:Int),R x1->Wp (f x1) P):Wp (dK wk [K.i IntKind.i64] o f) P:=by
 obtain ⟨v,rfl,h⟩:=h
 obtain ⟨x1,rfl,h⟩:=h
 exact k x1 h
theorem qk_i {β:Type} {wk:Bool} {P:β->Prop} {f:(Int)->Option β} {o:Option (AV)} {x1:Int} (h:o=some (.int Go.IntKind.i64 x1)) (k:Wp (f x1) P):Wp (dK wk [K.i IntKind.i64] o f) P:=by
 subst h
 exact k
theorem qk_A6issiii {β:Type} {wk:Bool} {P:β->Prop} {f:(Int)->(List Nat)->(List Nat)->(Int)->(Int)->(Int)->Option β} {o:Option (AV)} {x2:Int} {x3:List Nat} {x4:List Nat} {x5:Int} {x6:Int} {x7:Int} (h:o=some (.agg [.int Go.IntKind.i64 x2,.str x3,.str x4,.int Go.IntKind.i64 x5,.int Go.IntKind.i64 x6,.int Go.IntKind.i64 x7])) (k:Wp (f x2 x3 x4 x5 x6 x7) P):Wp (dK wk [K.agg 6,K.i IntKind.i64,K.s,K.s,K.i IntKind.i64,K.i IntKind.i64,K.i IntKind.i64] o f) P:=by
 subst h
 exact k
theorem wk_s {β:Type} {wk:Bool} {P:β->Prop} {f:(List Nat)->Option β} {o:Option (AV)} {R:(List Nat)->Prop} (h:Wp o fun v=>∃(x1:List Nat),v=(.str x1)/\R x1) (k:∀(x1:List Nat),R x1->Wp (f x1) P):Wp (dK wk [K.s] o f) P:=by
 obtain ⟨v,rfl,h⟩:=h
 obtain ⟨x1,rfl,h⟩:=h
 exact k x1 h
theorem qk_s {β:Type} {wk:Bool} {P:β->Prop} {f:(List Nat)->Option β} {o:Option (AV)} {x1:List Nat} (h:o=some (.str x1)) (k:Wp (f x1) P):Wp (dK wk [K.s] o f) P:=by
 subst h
 exact k
theorem wk_b {β:Type} {wk:Bool} {P:β->Prop} {f:(Bool)->Option β} {o:Option (AV)} {R:(Bool)->Prop} (h:Wp o fun v=>∃(x1:Bool),v=(.bool x1)/\R x1) (k:∀(x1:Bool),R x1->Wp (f x1) P):Wp (dK wk [K.b] o f) P:=by
 obtain ⟨v,rfl,h⟩:=h
 obtain ⟨x1,rfl,h⟩:=h
 exact k x1 h
theorem qk_b {β:Type} {wk:Bool} {P:β->Prop} {f:(Bool)->Option β} {o:Option (AV)} {x1:Bool} (h:o=some (.bool x1)) (k:Wp (f x1) P):Wp (dK wk [K.b] o f) P:=by
 subst h
 exact k
theorem qk_T2iv {β:Type} {wk:Bool} {P:β->Prop} {f:(Int)->(AV)->Option β} {o:Option (AV)} {x2:Int} {x3:AV} (h:o=some (.tup [.int Go.IntKind.i64 x2,x3])) (k:Wp (f x2 x3) P):Wp (dK wk [K.tup 2,K.i IntKind.i64,K.av] o f) P:=by
 subst h
 exact k
theorem ek_T2A1l6A2ii {β:Type} {wk:Bool} {f:(List AV)->(Int)->(Int)->Option β} (x3:List AV) (x5:Int) (x6:Int):dK wk [K.tup 2,K.agg 1,K.l 6,K.agg 2,K.i IntKind.i64,K.i IntKind.i64] (some (.tup [.agg [.lst 6 x3],.agg [.int Go.IntKind.i64 x5,.int Go.IntKind.i64 x6]])) f=f x3 x5 x6:=rfl
theorem qk_A2ss {β:Type} {wk:Bool} {P:β->Prop} {f:(List Nat)->(List Nat)->Option β} {o:Option (AV)} {x2:List Nat} {x3:List Nat} (h:o=some (.agg [.str x2,.str x3])) (k:Wp (f x2 x3) P):Wp (dK wk [K.agg 2,K.s,K.s] o f) P:=by
 subst h
 exact k
theorem wk_T2si {β:Type} {wk:Bool} {P:β->Prop} {f:(List Nat)->(Int)->Option β} {o:Option (AV)} {R:(List Nat)->(Int)->Prop} (h:Wp o fun v=>∃(x2:List Nat) (x3:Int),v=(.tup [.str x2,.int Go.IntKind.i64 x3])/\R x2 x3) (k:∀(x2:List Nat) (x3:Int),R x2 x3->Wp (f x2 x3) P):Wp (dK wk [K.tup 2,K.s,K.i IntKind.i64] o f) P:=by
 obtain ⟨v,rfl,h⟩:=h
 obtain ⟨x2,x3,rfl,h⟩:=h
 exact k x2 x3 h
theorem qk_A9siiiiiisb {β:Type} {wk:Bool} {P:β->Prop} {f:(List Nat)->(Int)->(Int)->(Int)->(Int)->(Int)->(Int)->(List Nat)->(Bool)->Option β} {o:Option (AV)} {x2:List Nat} {x3:Int} {x4:Int} {x5:Int} {x6:Int} {x7:Int} {x8:Int} {x9:List Nat} {x10:Bool} (h:o=some (.agg [.str x2,.int Go.IntKind.i64 x3,.int Go.IntKind.i64 x4,.int Go.IntKind.i64 x5,.int Go.IntKind.i64 x6,.int Go.IntKind.i64 x7,.int Go.IntKind.i64 x8,.str x9,.bool x10])) (k:Wp (f x2 x3 x4 x5 x6 x7 x8 x9 x10) P):Wp (dK wk [K.agg 9,K.s,K.i IntKind.i64,K.i IntKind.i64,K.i IntKind.i64,K.i IntKind.i64,K.i IntKind.i64,K.i IntKind.i64,K.s,K.b] o f) P:=by
 subst h
 exact k
theorem wk_l9 {β:Type} {wk:Bool} {P:β->Prop} {f:(List AV)->Option β} {o:Option (AV)} {R:(List AV)->Prop} (h:Wp o fun v=>∃(x1:List AV),v=(.lst 9 x1)/\R x1) (k:∀(x1:List AV),R x1->Wp (f x1) P):Wp (dK wk [K.l 9] o f) P:=by
 obtain ⟨v,rfl,h⟩:=h
 obtain ⟨x1,rfl,h⟩:=h
 exact k x1 h
theorem wk_T2A4iiiii {β:Type} {wk:Bool} {P:β->Prop} {f:(Int)->(Int)->(Int)->(Int)->(Int)->Option β} {o:Option (AV)} {R:(Int)->(Int)->(Int)->(Int)->(Int)->Prop} (h:Wp o fun v=>∃(x3:Int) (x4:Int) (x5:Int) (x6:Int) (x7:Int),v=(.tup [.agg [.int Go.IntKind.i64 x3,.int Go.IntKind.i64 x4,.int Go.IntKind.i64 x5,.int Go.IntKind.i64 x6],.int Go.IntKind.i64 x7])/\R x3 x4 x5 x6 x7) (k:∀(x3:Int) (x4:Int) (x5:Int) (x6:Int) (x7:Int),R x3 x4 x5 x6 x7->Wp (f x3 x4 x5 x6 x7) P):Wp (dK wk [K.tup 2,K.agg 4,K.i IntKind.i64,K.i IntKind.i64,K.i IntKind.i64,K.i IntKind.i64,K.i IntKind.i64] o f) P:=by
 obtain ⟨v,rfl,h⟩:=h
 obtain ⟨x3,x4,x5,x6,x7,rfl,h⟩:=h
 exact k x3 x4 x5 x6 x7 h
theorem wk_T2A9siiiiiisbb {β:Type} {wk:Bool} {P:β->Prop} {f:(List Nat)->(Int)->(Int)->(Int)->(Int)->(Int)->(Int)->(List Nat)->(Bool)->(Bool)->Option β} {o:Option (AV)} {R:(List Nat)->(Int)->(Int)->(Int)->(Int)->(Int)->(Int)->(List Nat)->(Bool)->(Bool)->Prop} (h:Wp o fun v=>∃(x3:List Nat) (x4:Int) (x5:Int) (x6:Int) (x7:Int) (x8:Int) (x9:Int) (x10:List Nat) (x11:Bool) (x12:Bool),v=(.tup [.agg [.str x3,.int Go.IntKind.i64 x4,.int Go.IntKind.i64 x5,.int Go.IntKind.i64 x6,.int Go.IntKind.i64 x7,.int Go.IntKind.i64 x8,.int Go.IntKind.i64 x9,.str x10,.bool x11],.bool x12])/\R x3 x4 x5 x6 x7 x8 x9 x10 x11 x12) (k:∀(x3:List Nat) (x4:Int) (x5:Int) (x6:Int) (x7:Int) (x8:Int) (x9:Int) (x10:List Nat) (x11:Bool) (x12:Bool),R x3 x4 x5 x6 x7 x8 x9 x10 x11 x12->Wp (f x3 x4 x5 x6 x7 x8 x9 x10 x11 x12) P):Wp (dK wk [K.tup 2,K.agg 9,K.s,K.i IntKind.i64,K.i IntKind.i64,K.i IntKind.i64,K.i IntKind.i64,K.i IntKind.i64,K.i IntKind.i64,K.s,K.b,K.b] o f) P:=by
 obtain ⟨v,rfl,h⟩:=h
 obtain ⟨x3,x4,x5,x6,x7,x8,x9,x10,x11,x12,rfl,h⟩:=h
 exact k x3 x4 x5 x6 x7 x8 x9 x10 x11 x12 h
theorem wk_T2A4iiiib {β:Type} {wk:Bool} {P:β->Prop} {f:(Int)->(Int)->(Int)->(Int)->(Bool)->Option β} {o:Option (AV)} {R:(Int)->(Int)->(Int)->(Int)->(Bool)->Prop} (h:Wp o fun v=>∃(x3:Int) (x4:Int) (x5:Int) (x6:Int) (x7:Bool),v=(.tup [.agg [.int Go.IntKind.i64 x3,.int Go.IntKind.i64 x4,.int Go.IntKind.i64 x5,.int Go.IntKind.i64 x6],.bool x7])/\R x3 x4 x5 x6 x7) (k:∀(x3:Int) (x4:Int) (x5:Int) (x6:Int) (x7:Bool),R x3 x4 x5 x6 x7->Wp (f x3 x4 x5 x6 x7) P):Wp (dK wk [K.tup 2,K.agg 4,K.i IntKind.i64,K.i IntKind.i64,K.i IntKind.i64,K.i IntKind.i64,K.b] o f) P:=by
 obtain ⟨v,rfl,h⟩:=h
 obtain ⟨x3,x4,x5,x6,x7,rfl,h⟩:=h
 exact k x3 x4 x5 x6 x7 h
theorem wk_T2bi {β:Type} {wk:Bool} {P:β->Prop} {f:(Bool)->(Int)->Option β} {o:Option (AV)} {R:(Bool)->(Int)->Prop} (h:Wp o fun v=>∃(x2:Bool) (x3:Int),v=(.tup [.bool x2,.int Go.IntKind.i64 x3])/\R x2 x3) (k:∀(x2:Bool) (x3:Int),R x2 x3->Wp (f x2 x3) P):Wp (dK wk [K.tup 2,K.b,K.i IntKind.i64] o f) P:=by
 obtain ⟨v,rfl,h⟩:=h
 obtain ⟨x2,x3,rfl,h⟩:=h
 exact k x2 x3 h
theorem qk_T3isi {β:Type} {wk:Bool} {P:β->Prop} {f:(Int)->(List Nat)->(Int)->Option β} {o:Option (AV)} {x2:Int} {x3:List Nat} {x4:Int} (h:o=some (.tup [.int Go.IntKind.i64 x2,.str x3,.int Go.IntKind.i64 x4])) (k:Wp (f x2 x3 x4) P):Wp (dK wk [K.tup 3,K.i IntKind.i64,K.s,K.i IntKind.i64] o f) P:=by
 subst h
 exact k
theorem wk_T2ii {β:Type} {wk:Bool} {P:β->Prop} {f:(Int)->(Int)->Option β} {o:Option (AV)} {R:(Int)->(Int)->Prop} (h:Wp o fun v=>∃(x2:Int) (x3:Int),v=(.tup [.int Go.IntKind.i64 x2,.int Go.IntKind.i64 x3])/\R x2 x3) (k:∀(x2:Int) (x3:Int),R x2 x3->Wp (f x2 x3) P):Wp (dK wk [K.tup 2,K.i IntKind.i64,K.i IntKind.i64] o f) P:=by
 obtain ⟨v,rfl,h⟩:=h
 obtain ⟨x2,x3,rfl,h⟩:=h
 exact k x2 x3 h
theorem qk_A8sl2iiiibl9 {β:Type} {wk:Bool} {P:β->Prop} {f:(List Nat)->(List AV)->(Int)->(Int)->(Int)->(Int)->(Bool)->(List AV)->Option β} {o:Option (AV)} {x2:List Nat} {x3:List AV} {x4:Int} {x5:Int} {x6:Int} {x7:Int} {x8:Bool} {x9:List AV} (h:o=some (.agg [.str x2,.lst 2 x3,.int Go.IntKind.i64 x4,.int Go.IntKind.i64 x5,.int Go.IntKind.i64 x6,.int Go.IntKind.i64 x7,.bool x8,.lst 9 x9])) (k:Wp (f x2 x3 x4 x5 x6 x7 x8 x9) P):Wp (dK wk [K.agg 8,K.s,K.l 2,K.i IntKind.i64,K.i IntKind.i64,K.i IntKind.i64,K.i IntKind.i64,K.b,K.l 9] o f) P:=by
 subst h
 exact k
end Go.Proofs.YthiefohjkbdjeaaGreatDoor.scoreBounds
namespace Go.Proofs.YthiefohjkbdjeaaGreatDoor.scoreBounds
open Go Go.Sy
abbrev nd6 (k:Int) (s t:List Nat) (n l r:Int):AV:=.agg [.int .i64 k,.str s,.str t,.int .i64 n,.int .i64 l,.int .i64 r]
def topL:Nat:=4611686018427387904
def TL (es:List AV) (L:Nat->Nat) (m:Nat):Prop:=∀j,j<m->∃k s t n l r,es[j]? = some (nd6 k s t n l r)/\(-9223372036854775808<=n/\n<=9223372036854775807)/\s.length+t.length+24<=L j/\L j<=topL ∧
 (k=7->∃a:Nat,l=Int.ofNat a/\a<j/\L a+3<=L j)/\(k=8\/k=9->∃a b:Nat,l=Int.ofNat a/\r=Int.ofNat b/\a<j/\b<j/\L a+L b+7<=L j)
def upd {α:Type} (f:Nat->α) (a:Nat) (v:α):Nat->α:=fun j=>if j=a then v else f j
theorem upd_at {α:Type} {f:Nat->α} {a:Nat} {v:α}:upd f a v a=v:=if_pos rfl
theorem upd_ne {α:Type} {f:Nat->α} {a j:Nat} {v:α} (h:j≠a):upd f a v j=f j:=if_neg h
def rs (L:Nat->Nat) (c:Nat->Int):Nat->Nat
 | 0=>0
 | i+1=>rs L c i+if c i=0 then L i else 0
theorem rs_congr {L L':Nat->Nat} {c c':Nat->Int}:∀{i:Nat},(∀j,j<i->L j=L' j)->(∀j,j<i->(c j=c' j))->rs L c i=rs L' c' i
 | 0,_,_=>rfl
 | i+1,h1,h2=>by
  rw [rs,rs,rs_congr (fun j h=>h1 j (by omega)) fun j h=>h2 j (by omega),h1 i (by omega),h2 i (by omega)]
theorem rs_take {L:Nat->Nat} {c:Nat->Int} {a:Nat} (h0:c a=0) {v:Int} (hv:v≠0):∀{i:Nat},a<i->rs L (upd c a v) i+L a=rs L c i
 | 0,h=>by omega
 | i+1,h=>by
  rw [rs,rs]
  by_cases e:a=i
  ·subst e
   rw [upd_at,if_neg hv,if_pos h0,rs_congr (L':=L) (c':=c) (fun _ _=>rfl) fun j hj=>upd_ne (by omega)]
   omega
  ·have:=rs_take (L:=L) (c:=c) h0 hv (show a<i by omega)
   rw [upd_ne (by omega)]
   omega
def fb:Nat->Nat->Nat->Nat
 | 0,a,b=>a
 | n+1,a,b=>fb n b (a+b+1)
theorem fb_rec:∀(n a b:Nat),fb (n+2) a b=fb (n+1) a b+fb n a b+1
 | 0,a,b=>by simp only [fb];omega
 | n+1,a,b=>by
  have:=fb_rec n b (a+b+1)
  rw [fb,fb,fb] at *
  exact this
theorem fb_lt:∀(n a b:Nat),a<b->fb n a b<fb (n+1) a b
 | 0,a,b,h=>by simp only [fb];exact h
 | n+1,a,b,h=>by
  have:=fb_lt n b (a+b+1) (by omega)
  rw [fb,fb] at *
  exact this
def fbL (j:Nat):Nat:=100*fb j 1 2
theorem fb_mono {a b:Nat} (h:a<b):∀{n m:Nat},n<=m->fb n a b<=fb m a b:=by
 intro n m hm
 induction m with
 | zero=>
  have:n=0:=by omega
  subst this;exact Nat.le_refl _
 | succ m ih=>
  by_cases e:n=m+1
  ·subst e;exact Nat.le_refl _
  ·exact Nat.le_trans (ih (by omega)) (Nat.le_of_lt (fb_lt m a b h))
theorem fbL_one {a j:Nat} (h:a<j):fbL a+3<=fbL j:=by
 have h1:=fb_lt a 1 2 (by omega)
 have h2:=fb_mono (a:=1) (b:=2) (by omega) (show a+1<=j by omega)
 unfold fbL
 omega
theorem fbL_two {a b j:Nat} (h:a<b) (h2:b<j):fbL a+fbL b+7<=fbL j:=by
 obtain ⟨i,rfl⟩:∃i,j=i+2:=⟨j-2,by omega⟩
 have h0:=fb_rec i 1 2
 have h1:=fb_mono (a:=1) (b:=2) (by omega) (show a<=i by omega)
 have h2:=fb_mono (a:=1) (b:=2) (by omega) (show b<=i+1 by omega)
 unfold fbL
 omega
theorem fbL_top {j:Nat} (h:j<=64):fbL j<=topL:=by
 have h1:=fb_mono (a:=1) (b:=2) (by omega) h
 have h2:fb 64 1 2<=40000000000000000:=by decide
 unfold fbL topL
 omega
theorem fbL_ge (j:Nat):100<=fbL j:=by
 have h1:=fb_mono (a:=1) (b:=2) (by omega) (show 0<=j by omega)
 have:fb 0 1 2=1:=rfl
 unfold fbL
 omega
end Go.Proofs.YthiefohjkbdjeaaGreatDoor.scoreBounds
namespace Go.Proofs.YthiefohjkbdjeaaGreatDoor.scoreBounds
open Go Go.Sy
theorem ext_Itoa (n:Int) (h0:0<=n) (h1:n<64):∃s,F_strconv_Itoa n=some (.str s)/\s.length<=20:=by
 obtain ⟨i,rfl⟩:=Int.eq_ofNat_of_zero_le h0
 have hi:i<64:=by omega
 refine ⟨decN i,?_,?_⟩
 ·show (match Nat.blt i 100 with | true=>some (AV.str (decN i)) | false=>none)=_
  rw [show Nat.blt i 100=true from by rw [Nat.blt_eq];omega]
 ·have:(Lib.decDigits i).length<=2:=by
   rw [Lib.decDigits]
   split
   ·simp
   ·rw [Lib.decDigits]
    split
    ·simp
    ·omega
  unfold decN
  rw [List.length_map]
  omega
theorem ext_Format (n:Int) (h0:-9223372036854775808<=n) (h1:n<=9223372036854775807):∃s,F_strconv_FormatInt n (Int.ofNat 10)=some (.str s)/\s.length<=21:=by
 refine ⟨(Lib.itoa n).map UInt8.toNat,?_,?_⟩
 ·show (match ((Int.ofNat 10==10)&&decide (-9223372036854775808<=n/\n<=9223372036854775807)) with | true=>some (AV.str ((Lib.itoa n).map UInt8.toNat)) | false=>none)=_
  rw [decide_eq_true (⟨h0,h1⟩:-9223372036854775808<=n/\n<=9223372036854775807)]
  rfl
 ·rw [List.length_map]
  exact Lib.itoa_length_le n h0 h1
theorem ext_IndexByte (s:List Nat) (c:Nat):∃n,F_strings_IndexByte s (Int.ofNat c)=some (.int .i64 n):=⟨_,rfl⟩
theorem ext_ParseInt (s:List Nat) (h:s.length<=1000):∃n v,F_strconv_ParseInt s (Int.ofNat 10) (Int.ofNat 64)=some (.tup [.int .i64 n,v])/\-9223372036854775808<=n/\n<=9223372036854775807:=by
 have hs:∀l,-9223372036854775808<=Lib.intSat 64 l/\Lib.intSat 64 l<=9223372036854775807:=fun l=>by unfold Lib.intSat;split <;> decide
 have e:Nat.ble s.length 281474976710656=true:=by rw [Nat.ble_eq];omega
 have e2:(Nat.ble s.length 281474976710656&&(Int.ofNat 10==10&&Int.ofNat 64==64))=true:=by rw [e];rfl
 unfold F_strconv_ParseInt ext_strconv_ParseInt pintG
 simp only [e2]
 cases hp:Lib.parseIntB 64 (s.map UInt8.ofNat) with
 | ok v=>
  have hb:=Lib.parseIntB_bounds hp
  exact ⟨_,_,rfl,hb.1,Int.le_of_lt_add_one hb.2⟩
 | range=>exact ⟨_,_,rfl,hs _⟩
 | _=>exact ⟨_,_,rfl,by decide,by decide⟩
set_option maxRecDepth 100000 in
theorem ext_lives:F_berthmasterlaw18_lives=some (.bool true):=by
 unfold F_berthmasterlaw18_lives gvF
 rw [FUEL_eq]
 kernel_rfl
abbrev am (a b c d:Int):AV:=.agg [.int .i64 a,.int .i64 b,.int .i64 c,.int .i64 d]
def okA (a b c d:Int):Prop:=(0<=a/\a<=1099511627776)/\(0<=b/\b<=1099511627776)/\(0<=c/\c<=1099511627776)/\(0<=d/\d<=1099511627776)
instance (a b c d:Int):Decidable (okA a b c d):=by unfold okA;infer_instance
theorem of_Wp {β:Type} {o:Option β} {x:β} (h:Wp o fun v=>v=x):o=some x:=let ⟨_,e,h⟩:=h;h▸e
theorem resource_Check (a b c d:Int):F_resource_Check a b c d=some (.int .i64 (if okA a b c d then 0 else 2)):=by
 refine of_Wp ?_
 rw [F_resource_Check_eq]
 refine qk_A4iiii (F_resource_array_eq ..) ?_
 repeat' first | refine Wp.ite (fun _=>?_) (fun _=>?_) | refine Wp.mk ?_
 all_goals (first | rw [if_neg (by unfold okA;omega)];rfl | rw [if_pos (by unfold okA;omega)];rfl)
theorem all_step (n i:Nat) (es:List AV) (a b c d:Int) (h:i<es.length) (he:es[i]=am a b c d) (hl:es.length<=2000000):F_resource_all_l7 (n+1) es (Int.ofNat es.length) (Int.ofNat i)=if okA a b c d then F_resource_all_l7 n es (Int.ofNat es.length) (Int.ofNat (i+1)) else some (.bool false):=by
 rw [F_resource_all_l7_eq,show decide (Int.ofNat i<Int.ofNat es.length)=true from decide_eq_true (Int.ofNat_lt.2 h),br_true,ixN_at h,he,ek_A4iiii,resource_Check,ek_i,wrapx_succ (by omega)]
 split <;> rfl
theorem all_end (n:Nat) (es:List AV):F_resource_all_l7 (n+1) es (Int.ofNat es.length) (Int.ofNat es.length)=some (.bool true):=by
 rw [F_resource_all_l7_eq,show decide (Int.ofNat es.length<Int.ofNat es.length)=false from decide_eq_false (Int.lt_irrefl _),br_false]
theorem resource_all2 (a b c d a' b' c' d':Int):F_resource_all [am a b c d,am a' b' c' d']=some (.bool (decide (okA a b c d/\okA a' b' c' d'))):=by
 rw [F_resource_all_eq,show FUEL=1180591620717411303421+1+1+1 from FUEL_eq,all_step _ 0 [am a b c d,am a' b' c' d'] a b c d (by simp) rfl (by simp),all_step _ 1 [am a b c d,am a' b' c' d'] a' b' c' d' (by simp) rfl (by simp)]
 have e:=all_end 1180591620717411303421 [am a b c d,am a' b' c' d']
 have e:F_resource_all_l7 (1180591620717411303421+1) [am a b c d,am a' b' c' d'] (Int.ofNat [am a b c d,am a' b' c' d'].length) (Int.ofNat (1+1))=some (.bool true):=e
 rw [e]
 by_cases h1:okA a b c d <;> by_cases h2:okA a' b' c' d' <;> simp [h1,h2]
def fits4 (a b c d a' b' c' d':Int):Prop:=a<=a'/\b<=b'/\c<=c'/\d<=d'
instance (a b c d a' b' c' d':Int):Decidable (fits4 a b c d a' b' c' d'):=by unfold fits4;infer_instance
theorem resource_Fits (a b c d a' b' c' d':Int):F_resource_Fits a b c d a' b' c' d'=some (.bool (decide (fits4 a b c d a' b' c' d'))):=by
 refine of_Wp ?_
 rw [F_resource_Fits_eq]
 refine qk_A4iiii (F_resource_array_eq ..) (qk_A4iiii (F_resource_array_eq ..) ?_)
 repeat' first | refine Wp.ite (fun _=>?_) (fun _=>?_) | refine Wp.mk ?_
 all_goals (first | rw [decide_eq_false (by unfold fits4;omega)] | rw [decide_eq_true (by unfold fits4;omega)])
theorem resource_Sub (a b c d a' b' c' d':Int):Wp (F_resource_Sub a b c d a' b' c' d') fun v=>∃x y z u e,v=.tup [am x y z u,.int .i64 e]/\(e=0->okA a b c d/\okA a' b' c' d'/\x=a-a'/\y=b-b'/\z=c-c'/\u=d-d'/\okA x y z u):=by
 rw [F_resource_Sub_eq]
 refine qk_b (resource_all2 ..) (Wp.if (fun _=>Wp.mk ⟨_,_,_,_,_,rfl,fun h=>(by cases h)⟩) fun h=>?_)
 have h:okA a b c d/\okA a' b' c' d':=by simpa using h
 refine qk_b (resource_Fits ..) (Wp.if (fun _=>Wp.mk ⟨_,_,_,_,_,rfl,fun h=>(by cases h)⟩) fun h2=>?_)
 have h2:fits4 a' b' c' d' a b c d:=by simpa using h2
 refine qk_A4iiii (F_resource_array_eq ..) (qk_A4iiii (F_resource_array_eq ..) ?_)
 rw [F_resource_Sub_j0_eq]
 refine qk_A4iiii (F_resource_four_amounts_eq ..) (Wp.mk ⟨_,_,_,_,_,rfl,fun _=>⟨h.1,h.2,?_⟩⟩)
 unfold okA fits4 at *
 rw [wrapx_of (by omega) (by omega),wrapx_of (by omega) (by omega),wrapx_of (by omega) (by omega),wrapx_of (by omega) (by omega)]
 refine ⟨rfl,rfl,rfl,rfl,by omega⟩
theorem resource_Add (a b c d a' b' c' d':Int):Wp (F_resource_Add a b c d a' b' c' d') fun v=>∃x y z u e,v=.tup [am x y z u,.int .i64 e]/\True:=by
 rw [F_resource_Add_eq]
 refine qk_b (resource_all2 ..) (Wp.if (fun _=>Wp.mk ⟨_,_,_,_,_,rfl,trivial⟩) fun h=>?_)
 refine qk_A4iiii (F_resource_array_eq ..) (qk_A4iiii (F_resource_array_eq ..) ?_)
 repeat' first | refine Wp.ite (fun _=>?_) (fun _=>?_) | exact Wp.mk ⟨_,_,_,_,_,rfl,trivial⟩
 rw [F_resource_Add_j0_eq]
 exact qk_A4iiii (F_resource_four_amounts_eq ..) (Wp.mk ⟨_,_,_,_,_,rfl,trivial⟩)
abbrev bytes (s:List Nat):List AV:=s.map fun b=>AV.int .u8 (.ofNat b)
abbrev isB (v:AV):Prop:=∃b,v=.bool b/\True
theorem spec_Name (s:List Nat):Wp (F_spec_Name s) isB:=by
 have loop:∀(n i:Nat),i<=s.length->s.length-i<n->s.length<=16->Wp (F_spec_Name_l9 n (Int.ofNat (bytes s).length) (Int.ofNat i) (bytes s)) isB:=by
  intro n
  induction n with
  | zero=>intro i _ h;omega
  | succ n ih=>
   intro i hi hn hs
   rw [F_spec_Name_l9_eq]
   rw [List.length_map]
   refine Wp.lt (fun h=>gd_at h (qk_u (ldE_u8 h) ?_)) fun _=>Wp.mk ⟨_,rfl,trivial⟩
   have next:∀b,Wp (F_spec_Name_j2 n (Int.ofNat s.length) (Int.ofNat i) b (bytes s)) isB:=fun b=>by
    rw [F_spec_Name_j2_eq]
    refine Wp.if (fun _=>Wp.mk ⟨_,rfl,trivial⟩) fun _=>?_
    rw [wrapx_succ (by omega)]
    have:=ih (i+1) h (by omega) hs
    rwa [List.length_map] at this
   repeat' first | refine Wp.ite (fun _=>?_) (fun _=>?_) | exact next _
 rw [F_spec_Name_eq]
 have j1:∀b,(b=true\/s.length<=16)->Wp (F_spec_Name_j1 s b) isB:=fun b hb=>by
  rw [F_spec_Name_j1_eq]
  refine Wp.if (fun _=>Wp.mk ⟨_,rfl,trivial⟩) fun h=>?_
  rw [F_spec_Name_j0_eq]
  refine loop _ 0 (Nat.zero_le _) (FUEL_gt ?_) ?_ <;> rcases hb with hb | hb <;> first | omega | (rw [hb] at h;cases h)
 refine Wp.ite (fun _=>j1 _ (.inl rfl)) fun h1=>Wp.ite (fun _=>j1 _ (.inl rfl)) fun h2=>?_
 rw [Int.ofNat_eq_natCast] at h1 h2
 have hl:0<s.length:=by omega
 have hx:ixN s 0=some s[0]:=ixN_at hl
 simp only [hx,bd_some']
 refine Wp.ite (fun _=>j1 _ (.inl rfl)) fun h1=>j1 _ (.inr (by omega))
abbrev isSI (v:AV):Prop:=∃s n,v=.tup [.str s,.int .i64 n]/\True
theorem name_len {s:List Nat} (h:F_spec_Name s=some (.bool true)):s.length<=16:=by
 rcases Nat.lt_or_ge 16 s.length with h' | h'
 ·exfalso
  rw [F_spec_Name_eq] at h
  have h1:¬Int.ofNat s.length<1:=by rw [Int.ofNat_eq_natCast];omega
  have h2:Int.ofNat s.length > 16:=by rw [Int.ofNat_eq_natCast];omega
  simp only [h1,h2,decide_true,decide_false,br_true,br_false,F_spec_Name_j1_eq] at h
  cases h
 ·exact h'
theorem canon_Task (s:List Nat) (i:Int):Wp (F_canon_Task s i) isSI:=by
 rw [F_canon_Task_eq]
 obtain ⟨_,hn,b,rfl,_⟩:=spec_Name s
 refine qk_b hn (Wp.if (fun _=>Wp.mk ⟨_,_,rfl,trivial⟩) fun hb=>?_)
 have hb:b=true:=by simpa using hb
 subst hb
 have hl:=name_len hn
 refine Wp.ite (fun _=>Wp.mk ⟨_,_,rfl,trivial⟩) fun h0=>Wp.ite (fun _=>Wp.mk ⟨_,_,rfl,trivial⟩) fun h1=>?_
 rw [F_canon_Task_j0_eq]
 obtain ⟨t,ht,hl2⟩:=ext_Itoa i (by omega) (by omega)
 refine Wp.gd ?_ (qk_s ht (Wp.gd ?_ (Wp.mk ⟨_,_,rfl,trivial⟩))) <;> (simp only [List.length_append,List.length_cons,List.length_nil,maxStr];omega)
theorem fit_fineUse (s:List Nat) (a b c d e f:Int) (t:List Nat) (g:Bool):Wp (F_fit_fineUse s a b c d e f t g) isB:=by
 rw [F_fit_fineUse_eq]
 refine wk_T2si (canon_Task s a) fun _ n _=>?_
 repeat' first | refine Wp.ite (fun _=>?_) (fun _=>?_) | refine Wp.if (fun _=>?_) (fun _=>?_) | exact Wp.mk ⟨_,rfl,trivial⟩ | refine qk_i (resource_Check ..) ?_
theorem rule_digit (c:Int):F_rule_digit c=some (.bool (decide (48<=c/\c<=57))):=by
 rw [F_rule_digit_eq]
 refine of_Wp (Wp.ite (fun h=>Wp.mk ?_) fun h=>Wp.mk ?_)
 ·congr 1;exact decide_eq_decide.2 (by omega)
 ·congr 1;exact (decide_eq_false (by omega)).symm
theorem rule_inWord (c:Nat):Wp (F_rule_inWord (Int.ofNat c)) isB:=by
 rw [F_rule_inWord_eq,F_rule_letter_eq,rule_digit]
 have hl:Wp (br (decide (IntKind.wrap IntKind.u8 ↑(BitVec.toNat (BitVec.ofInt (IntKind.bits IntKind.u8) (Int.ofNat c) ||| BitVec.ofInt (IntKind.bits IntKind.u8) 32))>=97)) (some (AV.bool (decide (IntKind.wrap IntKind.u8 ↑(BitVec.toNat (BitVec.ofInt (IntKind.bits IntKind.u8) (Int.ofNat c) ||| BitVec.ofInt (IntKind.bits IntKind.u8) 32))<=122)))) (some (AV.bool false))) isB:=by
  refine Wp.ite (fun _=>Wp.mk ⟨_,rfl,trivial⟩) fun _=>Wp.mk ⟨_,rfl,trivial⟩
 refine wk_b hl fun b _=>Wp.if (fun _=>Wp.mk ⟨_,rfl,trivial⟩) fun _=>qk_b rfl (Wp.if (fun _=>Wp.mk ⟨_,rfl,trivial⟩) fun _=>?_)
 obtain ⟨n,hn⟩:=ext_IndexByte [45,95,46] c
 exact qk_i hn (Wp.mk ⟨_,rfl,trivial⟩)
theorem rule_isName (s:List Nat):Wp (F_rule_isName s) isB:=by
 have loop:∀(n i:Nat),i<=s.length->s.length-i<n->s.length<=24->Wp (F_rule_isName_l9 n (Int.ofNat (bytes s).length) (Int.ofNat i) (bytes s)) isB:=by
  intro n
  induction n with
  | zero=>intro i _ h;omega
  | succ n ih=>
   intro i hi hn hs
   rw [F_rule_isName_l9_eq,List.length_map]
   refine Wp.lt (fun h=>gd_at h (qk_u (ldE_u8 h) ?_)) fun _=>Wp.mk ⟨_,rfl,trivial⟩
   have next:∀b,Wp (F_rule_isName_j2 n (Int.ofNat s.length) (Int.ofNat i) b (bytes s)) isB:=fun b=>by
    rw [F_rule_isName_j2_eq]
    refine Wp.if (fun _=>Wp.mk ⟨_,rfl,trivial⟩) fun _=>?_
    rw [wrapx_succ (by omega)]
    have:=ih (i+1) h (by omega) hs
    rwa [List.length_map] at this
   repeat' first | refine Wp.ite (fun _=>?_) (fun _=>?_) | refine Wp.if (fun _=>?_) (fun _=>?_) | refine qk_b (rule_digit _) ?_ | exact next _
 rw [F_rule_isName_eq]
 have j1:∀b,(b=true\/s.length<=24)->Wp (F_rule_isName_j1 s b) isB:=fun b hb=>by
  rw [F_rule_isName_j1_eq]
  refine Wp.if (fun _=>Wp.mk ⟨_,rfl,trivial⟩) fun h=>?_
  rw [F_rule_isName_j0_eq]
  refine loop _ 0 (Nat.zero_le _) (FUEL_gt ?_) ?_ <;> rcases hb with hb | hb <;> first | omega | (rw [hb] at h;cases h)
 refine Wp.ite (fun _=>j1 _ (.inl rfl)) fun h1=>Wp.ite (fun _=>j1 _ (.inl rfl)) fun h2=>?_
 rw [Int.ofNat_eq_natCast] at h1 h2
 have hl:0<s.length:=by omega
 have hx:ixN s 0=some s[0]:=ixN_at hl
 simp only [hx,bd_some']
 refine Wp.ite (fun _=>j1 _ (.inl rfl)) fun h1=>j1 _ (.inr (by omega))
theorem rule_isWord (s:List Nat):Wp (F_rule_isWord s) isB:=by
 have loop:∀(n i:Nat),i<=s.length->s.length-i<n->s.length<=32->Wp (F_rule_isWord_l9 n (Int.ofNat (bytes s).length) (Int.ofNat i) (bytes s)) isB:=by
  intro n
  induction n with
  | zero=>intro i _ h;omega
  | succ n ih=>
   intro i hi hn hs
   rw [F_rule_isWord_l9_eq,List.length_map]
   refine Wp.lt (fun h=>gd_at h (qk_u (ldE_u8 h) (wk_b (rule_inWord _) fun b _=>Wp.if (fun _=>Wp.mk ⟨_,rfl,trivial⟩) fun _=>?_))) fun _=>Wp.mk ⟨_,rfl,trivial⟩
   rw [wrapx_succ (by omega)]
   have:=ih (i+1) h (by omega) hs
   rwa [List.length_map] at this
 rw [F_rule_isWord_eq]
 refine Wp.ite (fun _=>Wp.mk ⟨_,rfl,trivial⟩) fun h1=>Wp.ite (fun _=>Wp.mk ⟨_,rfl,trivial⟩) fun h2=>?_
 rw [Int.ofNat_eq_natCast] at h1 h2
 rw [F_rule_isWord_j0_eq]
 exact loop _ 0 (Nat.zero_le _) (FUEL_gt (by omega)) (by omega)
theorem rule_isDigits (s:List Nat):∃b,F_rule_isDigits s=some (.bool b)/\(b=true->s.length<=12/\∀c∈s,48<=c/\c<=57):=by
 have loop:∀(n i:Nat),i<=s.length->s.length-i<n->s.length<=12->Wp (F_rule_isDigits_l9 n (Int.ofNat (bytes s).length) (Int.ofNat i) (bytes s)) fun v=>∃b,v=.bool b/\(b=true->∀j,i<=j->∀h:j<s.length,48<=s[j]/\s[j]<=57):=by
  intro n
  induction n with
  | zero=>intro i _ h;omega
  | succ n ih=>
   intro i hi hn hs
   rw [F_rule_isDigits_l9_eq,List.length_map]
   refine Wp.lt (fun h=>gd_at h (qk_u (ldE_u8 h) (qk_b (rule_digit _) (Wp.if (fun _=>Wp.mk ⟨_,rfl,fun h=>(by cases h)⟩) fun hd=>?_)))) fun hle=>Wp.mk ⟨_,rfl,fun _ j h1 h2=>by omega⟩
   rw [wrapx_succ (by omega)]
   have:=ih (i+1) h (by omega) hs
   rw [List.length_map] at this
   refine this.mono fun v ⟨b,e,hb⟩=>⟨b,e,fun hbt j h1 h2=>?_⟩
   rcases Nat.lt_or_ge i j with hj | hj
   ·exact hb hbt j hj h2
   ·have:j=i:=by omega
    subst this
    have hd:48<=Int.ofNat s[j]/\Int.ofNat s[j]<=57:=by simpa using hd
    rw [Int.ofNat_eq_natCast] at hd
    omega
 have:Wp (F_rule_isDigits s) fun v=>∃b,v=.bool b/\(b=true->s.length<=12/\∀c∈s,48<=c/\c<=57):=by
  rw [F_rule_isDigits_eq]
  refine Wp.ite (fun _=>Wp.mk ⟨_,rfl,fun h=>(by cases h)⟩) fun h1=>Wp.ite (fun _=>Wp.mk ⟨_,rfl,fun h=>(by cases h)⟩) fun h2=>?_
  rw [Int.ofNat_eq_natCast] at h1 h2
  rw [F_rule_isDigits_j0_eq]
  refine (loop _ 0 (Nat.zero_le _) (FUEL_gt (by omega)) (by omega)).mono fun v ⟨b,e,hb⟩=>⟨b,e,fun hbt=>⟨by omega,fun c hc=>?_⟩⟩
  obtain ⟨j,hj,rfl⟩:=List.getElem_of_mem hc
  exact hb hbt j (Nat.zero_le _) hj
 obtain ⟨v,e,b,rfl,h⟩:=this
 exact ⟨b,e,h⟩
end Go.Proofs.YthiefohjkbdjeaaGreatDoor.scoreBounds
namespace Go.Proofs.YthiefohjkbdjeaaGreatDoor.scoreBounds
open Go Go.Sy
abbrev uAV (s:List Nat) (a b c d e f:Int) (t:List Nat) (g:Bool):AV:=.agg [.str s,.int .i64 a,.int .i64 b,.int .i64 c,.int .i64 d,.int .i64 e,.int .i64 f,.str t,.bool g]
def isU (v:AV):Prop:=∃s a b c d e f t g,v=uAV s a b c d e f t g
def Us (es:List AV):Prop:=(∀e∈es,isU e)/\es.length<=2000000
def Ats (es:List AV):Prop:=(∀e∈es,∃s t,e=.agg [.str s,.str t])/\es.length<=2000000
abbrev isE (v:AV):Prop:=∃n,v=.int .i64 n/\True
theorem Us.at {β:Type} {P:β->Prop} {wk:Bool} {es:List AV} (h:Us es) {i:Nat} (hi:i<es.length) {f:List Nat->Int->Int->Int->Int->Int->Int->List Nat->Bool->Option β} (k:∀s a b c d e f' t g,es[i]=uAV s a b c d e f' t g->Wp (f s a b c d e f' t g) P):Wp (dK wk [K.agg 9,K.s,K.i IntKind.i64,K.i IntKind.i64,K.i IntKind.i64,K.i IntKind.i64,K.i IntKind.i64,K.i IntKind.i64,K.s,K.b] (ixN es (Int.ofNat i)) f) P:=by
 obtain ⟨s,a,b,c,d,e,f',t,g,he⟩:=h.1 _ (List.getElem_mem hi)
 exact qk_A9siiiiiisb ((ixN_at hi).trans (congrArg some he)) (k _ _ _ _ _ _ _ _ _ he)
theorem Ats.at {β:Type} {P:β->Prop} {wk:Bool} {es:List AV} (h:Ats es) {i:Nat} (hi:i<es.length) {f:List Nat->List Nat->Option β} (k:∀s t,es[i]=.agg [.str s,.str t]->Wp (f s t) P):Wp (dK wk [K.agg 2,K.s,K.s] (ixN es (Int.ofNat i)) f) P:=by
 obtain ⟨s,t,he⟩:=h.1 _ (List.getElem_mem hi)
 exact qk_A2ss ((ixN_at hi).trans (congrArg some he)) (k _ _ he)
theorem rule_Attrs (es:List AV) (h:Ats es):Wp (F_rule_Attrs es) isE:=by
 have loop:∀(n i:Nat),i<=es.length->es.length-i<n->Wp (F_rule_Attrs_l9 n es es (Int.ofNat es.length) (Int.ofNat i)) isE:=by
  intro n
  induction n with
  | zero=>intro i _ h;omega
  | succ n ih=>
   intro i hi hn
   rw [F_rule_Attrs_l9_eq]
   refine Wp.lt (fun hlt=>h.at hlt fun s t _=>?_) fun _=>Wp.mk ⟨_,rfl,trivial⟩
   have next:∀b,Wp (F_rule_Attrs_j0 n es es (Int.ofNat es.length) (Int.ofNat i) b) isE:=fun b=>by
    rw [F_rule_Attrs_j0_eq]
    refine Wp.if (fun _=>Wp.mk ⟨_,rfl,trivial⟩) fun _=>?_
    rw [wrapx_succ (by have:=h.2;omega)]
    exact ih (i+1) hlt (by omega)
   refine wk_b (rule_isName s) fun b _=>Wp.if (fun _=>next _) fun _=>wk_b (rule_isWord t) fun b _=>Wp.if (fun _=>next _) fun _=>Wp.ite (fun hp=>?_) fun _=>next _
   rw [Int.ofNat_eq_natCast] at hp
   rw [wrapx_pred (by omega) (by have:=h.2;omega)]
   exact h.at (by omega) fun _ _ _=>next _
 rw [F_rule_Attrs_eq]
 exact Wp.ite (fun _=>Wp.mk ⟨_,rfl,trivial⟩) fun _=>loop _ 0 (Nat.zero_le _) (FUEL_gt (by have:=h.2;omega))
abbrev sub (es:List AV) (v:AV):Prop:=∃l,v=.lst 9 l/\(∀e∈l,e∈es)/\l.length<=es.length
theorem Us.sub {es l:List AV} (h:Us es) (h1:∀e∈l,e∈es) (h2:l.length<=es.length):Us l:=⟨fun e he=>h.1 e (h1 e he),Nat.le_trans h2 h.2⟩
theorem room_ok {n k:Nat} (h:n<=2000001) (hk:k<=200):n*k<=roomBits/\n<=roomBits:=by
 have:n*k<=2000001*200:=Nat.mul_le_mul h hk
 unfold roomBits
 omega
theorem where_in (es:List AV) (h:Us es) (p:List Nat):Wp (F_fit_where_api_Use_fit_in_1 es p) (sub es):=by
 have loop:∀(n i:Nat) (l:List AV),i<=es.length->es.length-i<n->(∀e∈l,e∈es)->l.length<=i->Wp (F_fit_where_api_Use_fit_in_1_l8 n p es (Int.ofNat es.length) (Int.ofNat i) l) (sub es):=by
  intro n
  induction n with
  | zero=>intro i l _ h;omega
  | succ n ih=>
   intro i l hi hn hl hll
   rw [F_fit_where_api_Use_fit_in_1_l8_eq]
   have hL:=h.2
   refine Wp.lt (fun hlt=>h.at hlt fun s a b c d e f t g he=>?_) fun _=>Wp.mk ⟨l,rfl,hl,by omega⟩
   rw [wrapx_succ (by omega)]
   refine qk_b (F_fit_in_1_eq ..) (Wp.if (fun _=>Wp.gd (room_ok (show l.length+1<=_ by omega) (by omega)) (ih (i+1) _ hlt (by omega) (fun x hx=>?_) ?_)) fun _=>ih (i+1) l hlt (by omega) hl (by omega))
   ·rcases List.mem_append.1 hx with hx | hx
    ·exact hl x hx
    ·have:x=uAV s a b c d e f t g:=List.mem_singleton.1 hx
     rw [this,←he];exact List.getElem_mem hlt
   ·rw [List.length_append];show l.length+1<=_;omega
 rw [F_fit_where_api_Use_fit_in_1_eq]
 exact loop _ 0 [] (Nat.zero_le _) (FUEL_gt (by have:=h.2;omega)) (fun _ h=>by cases h) (Nat.le_refl _)
theorem fit_in (es:List AV) (h:Us es) (p:List Nat):Wp (F_fit_in es p) (sub es):=by
 rw [F_fit_in_eq]
 exact wk_l9 (where_in es h p) fun l hl=>Wp.mk ⟨l,rfl,hl⟩
theorem where_goers (es:List AV) (h:Us es) (p:List Nat) (s0:List Nat) (a0 b0 c0 d0 e0:Int) (r0:List AV) (t0:List Nat):Wp (F_fit_where_api_Use_fit_goers_1 es p s0 a0 b0 c0 d0 e0 r0 t0) (sub es):=by
 have loop:∀(n i:Nat) (l:List AV),i<=es.length->es.length-i<n->(∀e∈l,e∈es)->l.length<=i->Wp (F_fit_where_api_Use_fit_goers_1_l8 n p s0 a0 b0 c0 d0 e0 r0 t0 es (Int.ofNat es.length) (Int.ofNat i) l) (sub es):=by
  intro n
  induction n with
  | zero=>intro i l _ h;omega
  | succ n ih=>
   intro i l hi hn hl hll
   rw [F_fit_where_api_Use_fit_goers_1_l8_eq]
   have hL:=h.2
   refine Wp.lt (fun hlt=>h.at hlt fun s a b c d e f t g he=>?_) fun _=>Wp.mk ⟨l,rfl,hl,by omega⟩
   rw [wrapx_succ (by omega)]
   have hg:Wp (F_fit_goers_1 s a b c d e f t g p s0 a0 b0 c0 d0 e0 r0 t0) isB:=by
    rw [F_fit_goers_1_eq]
    repeat' first | refine Wp.ite (fun _=>?_) (fun _=>?_) | refine Wp.if (fun _=>?_) (fun _=>?_) | exact Wp.mk ⟨_,rfl,trivial⟩
   refine wk_b hg fun _ _=>(Wp.if (fun _=>Wp.gd (room_ok (show l.length+1<=_ by omega) (by omega)) (ih (i+1) _ hlt (by omega) (fun x hx=>?_) ?_)) fun _=>ih (i+1) l hlt (by omega) hl (by omega))
   ·rcases List.mem_append.1 hx with hx | hx
    ·exact hl x hx
    ·have:x=uAV s a b c d e f t g:=List.mem_singleton.1 hx
     rw [this,←he];exact List.getElem_mem hlt
   ·rw [List.length_append];show l.length+1<=_;omega
 rw [F_fit_where_api_Use_fit_goers_1_eq]
 exact loop _ 0 [] (Nat.zero_le _) (FUEL_gt (by have:=h.2;omega)) (fun _ h=>by cases h) (Nat.le_refl _)
theorem where_Fit (es:List AV) (h:Us es) (s0:List Nat) (a0 b0 c0 d0 e0:Int) (r0:List AV) (t0:List Nat):Wp (F_fit_where_api_Use_fit_Fit_1 es s0 a0 b0 c0 d0 e0 r0 t0) (sub es):=by
 have loop:∀(n i:Nat) (l:List AV),i<=es.length->es.length-i<n->(∀e∈l,e∈es)->l.length<=i->Wp (F_fit_where_api_Use_fit_Fit_1_l8 n s0 a0 b0 c0 d0 e0 r0 t0 es (Int.ofNat es.length) (Int.ofNat i) l) (sub es):=by
  intro n
  induction n with
  | zero=>intro i l _ h;omega
  | succ n ih=>
   intro i l hi hn hl hll
   rw [F_fit_where_api_Use_fit_Fit_1_l8_eq]
   have hL:=h.2
   refine Wp.lt (fun hlt=>h.at hlt fun s a b c d e f t g he=>?_) fun _=>Wp.mk ⟨l,rfl,hl,by omega⟩
   rw [wrapx_succ (by omega)]
   have hg:Wp (F_fit_Fit_1 s a b c d e f t g s0 a0 b0 c0 d0 e0 r0 t0) isB:=by
    rw [F_fit_Fit_1_eq]
    repeat' first | refine Wp.ite (fun _=>?_) (fun _=>?_) | refine Wp.if (fun _=>?_) (fun _=>?_) | exact Wp.mk ⟨_,rfl,trivial⟩
   refine wk_b hg fun _ _=>(Wp.if (fun _=>Wp.gd (room_ok (show l.length+1<=_ by omega) (by omega)) (ih (i+1) _ hlt (by omega) (fun x hx=>?_) ?_)) fun _=>ih (i+1) l hlt (by omega) hl (by omega))
   ·rcases List.mem_append.1 hx with hx | hx
    ·exact hl x hx
    ·have:x=uAV s a b c d e f t g:=List.mem_singleton.1 hx
     rw [this,←he];exact List.getElem_mem hlt
   ·rw [List.length_append];show l.length+1<=_;omega
 rw [F_fit_where_api_Use_fit_Fit_1_eq]
 exact loop _ 0 [] (Nat.zero_le _) (FUEL_gt (by have:=h.2;omega)) (fun _ h=>by cases h) (Nat.le_refl _)
def within (a b c d x y z u:Int):Prop:=okA a b c d->okA x y z u/\x<=a/\y<=b/\z<=c/\u<=d
theorem fit_take (es:List AV) (h:Us es) (a b c d:Int):Wp (F_fit_take a b c d es) fun v=>∃x y z u g,v=.tup [am x y z u,.bool g]/\within a b c d x y z u:=by
 have loop:∀(n i:Nat) (a' b' c' d':Int),i<=es.length->es.length-i<n->within a b c d a' b' c' d'->Wp (F_fit_take_l9 n es (Int.ofNat es.length) (Int.ofNat i) a' b' c' d' (Int.ofNat 0) (Int.ofNat 0) (Int.ofNat 0) (Int.ofNat 0)) fun v=>∃x y z u g,v=.tup [am x y z u,.bool g]/\within a b c d x y z u:=by
  intro n
  induction n with
  | zero=>intro i _ _ _ _ _ h;omega
  | succ n ih=>
   intro i a' b' c' d' hi hn hw
   have hL:=h.2
   rw [F_fit_take_l9_eq]
   refine Wp.lt (fun hlt=>h.at hlt fun s j k l1 l2 l3 l4 t g he=>?_) fun _=>Wp.mk ⟨_,_,_,_,_,rfl,hw⟩
   refine wk_T2A4iiiii (resource_Sub ..) fun x y z u e hs=>Wp.if (fun _=>Wp.mk ⟨_,_,_,_,_,rfl,fun hk=>?_⟩) fun he0=>?_
   ·unfold okA at *;refine ⟨by decide,?_⟩;exact ⟨hk.1.1,hk.2.1.1,hk.2.2.1.1,hk.2.2.2.1⟩
   ·rw [wrapx_succ (by omega)]
    have he0:e=0:=by simpa using he0
    obtain ⟨q1,q2,rfl,rfl,rfl,rfl,q3⟩:=hs he0
    refine ih (i+1) _ _ _ _ hlt (by omega) fun hk=>?_
    obtain ⟨w1,w2,w3,w4,w5⟩:=hw hk
    refine ⟨q3,?_⟩
    unfold okA at q2
    omega
 rw [F_fit_take_eq]
 exact loop _ 0 _ _ _ _ (Nat.zero_le _) (FUEL_gt (by have:=h.2;omega)) fun hk=>⟨hk,Int.le_refl _,Int.le_refl _,Int.le_refl _,Int.le_refl _⟩
theorem fit_envelope (nm:List Nat) (ats:List AV) (c1 c2 c3 c4:Int) (up:Bool) (us:List AV) (h:Us us) (p:List Nat):Wp (F_fit_envelope nm ats c1 c2 c3 c4 up us p) fun v=>∃s a b c d e f t g g',v=.tup [uAV s a b c d e f t g,.bool g']/\True:=by
 have loop:∀(n i:Nat) (s:List Nat) (a b c d e f:Int) (t:List Nat) (g:Bool),i<=us.length->us.length-i<n->Wp (F_fit_envelope_l8 n p us (Int.ofNat us.length) (Int.ofNat i) s a b c d e f t g) fun v=>∃s a b c d e f t g g',v=.tup [uAV s a b c d e f t g,.bool g']/\True:=by
  intro n
  induction n with
  | zero=>intro i _ _ _ _ _ _ _ _ _ _ h;omega
  | succ n ih=>
   intro i s a b c d e f t g hi hn
   have hL:=h.2
   rw [F_fit_envelope_l8_eq]
   refine Wp.lt (fun hlt=>h.at hlt fun s' a' b' c' d' e' f' t' g' he=>?_) fun _=>Wp.mk ⟨_,_,_,_,_,_,_,_,_,_,rfl,trivial⟩
   have next:∀q,Wp (F_fit_envelope_j0 n p us (Int.ofNat us.length) (Int.ofNat i) q s' a' b' c' d' e' f' t' g' s a b c d e f t g) (fun v=>∃s a b c d e f t g g',v=.tup [uAV s a b c d e f t g,.bool g']/\True):=fun q=>by
    rw [F_fit_envelope_j0_eq,wrapx_succ (by omega)]
    exact Wp.if (fun _=>Wp.mk ⟨_,_,_,_,_,_,_,_,_,_,rfl,trivial⟩) fun _=>ih (i+1) _ _ _ _ _ _ _ _ _ hlt (by omega)
   refine wk_T2si (canon_Task s' a') fun _ k _=>?_
   repeat' first | exact next _ | refine Wp.if (fun _=>?_) (fun _=>?_)
 rw [F_fit_envelope_eq]
 exact loop _ 0 _ _ _ _ _ _ _ _ _ (Nat.zero_le _) (FUEL_gt (by have:=h.2;omega))
end Go.Proofs.YthiefohjkbdjeaaGreatDoor.scoreBounds
namespace Go.Proofs.YthiefohjkbdjeaaGreatDoor.scoreBounds
open Go Go.Sy
abbrev ndAV (k:Int) (s t:List Nat) (n l r:Int):AV:=.agg [.int .i64 k,.str s,.str t,.int .i64 n,.int .i64 l,.int .i64 r]
def Nds (es:List AV):Prop:=(∀e∈es,∃k s t n l r,e=ndAV k s t n l r/\-9223372036854775808<=n/\n<=9223372036854775807/\s.length<=2000000/\t.length<=2000000)/\es.length<=2000000
theorem Nds.at {β:Type} {P:β->Prop} {wk:Bool} {es:List AV} (h:Nds es) {i:Nat} (hi:i<es.length) {f:Int->List Nat->List Nat->Int->Int->Int->Option β} (k:∀kd s t n l r,es[i]=ndAV kd s t n l r->-9223372036854775808<=n->n<=9223372036854775807->Wp (f kd s t n l r) P):Wp (dK wk [K.agg 6,K.i IntKind.i64,K.s,K.s,K.i IntKind.i64,K.i IntKind.i64,K.i IntKind.i64] (ixN es (Int.ofNat i)) f) P:=by
 obtain ⟨kd,s,t,n,l,r,he,h1,h2,_⟩:=h.1 _ (List.getElem_mem hi)
 exact qk_A6issiii ((ixN_at hi).trans (congrArg some he)) (k _ _ _ _ _ _ he h1 h2)
theorem slices_Equal (es fs:List AV) (h:Nds es) (h':Nds fs):Wp (F_slices_Equal_api_Node_api_Node es fs) isB:=by
 have loop:es.length=fs.length->∀(n i:Nat),i<=es.length->es.length-i<n->Wp (F_slices_Equal_api_Node_api_Node_l9 n es fs (Int.ofNat es.length) (Int.ofNat i)) isB:=by
  intro hl n
  induction n with
  | zero=>intro i _ h;omega
  | succ n ih=>
   intro i hi hn
   rw [F_slices_Equal_api_Node_api_Node_l9_eq]
   refine Wp.lt (fun hlt=>h.at hlt fun _ _ _ _ _ _ _ _ _=>h'.at (hl▸hlt) fun _ _ _ _ _ _ _ _ _=>Wp.if (fun _=>Wp.mk ⟨_,rfl,trivial⟩) fun _=>?_) fun _=>Wp.mk ⟨_,rfl,trivial⟩
   rw [wrapx_succ (by have:=h.2;omega)]
   exact ih (i+1) hlt (by omega)
 rw [F_slices_Equal_api_Node_api_Node_eq]
 refine Wp.if (fun _=>Wp.mk ⟨_,rfl,trivial⟩) fun e=>loop ?_ _ 0 (Nat.zero_le _) (FUEL_gt (by have:=h.2;omega))
 have e:(es.length:Int)=fs.length:=by simpa using e
 exact Int.ofNat_inj.1 e
end Go.Proofs.YthiefohjkbdjeaaGreatDoor.scoreBounds
namespace Go.Proofs.YthiefohjkbdjeaaGreatDoor.scoreBounds
open Go Go.Sy
structure PS where
 s:List Nat
 i:Int
 dp:Int
 n:Int
 e:Int
 fa:Int
 l:List AV
abbrev outS (v:AV) (q:PS):AV×Heap×Vecs:=(v,[(0,HO.cells false [.str q.s,.int .i64 q.i,.int .i64 q.dp,.int .i64 q.n,AV.sym 0,.int .i64 q.e,.int .i64 q.fa])],[(0,VI.vec 6 q.l)])
section
variable {β:Type} {wk:Bool} {P:β->Prop} {o:Option (AV×Heap×Vecs)}
theorem wdU {f:List Nat->Int->Int->Int->Int->Int->List AV->Option β} {R:PS->Prop} (h:Wp o fun v=>∃q,v=outS (.tup []) q/\R q) (k:∀q,R q->Wp (f q.s q.i q.dp q.n q.e q.fa q.l) P):Wp (dD wk [D.v (K.tup 0),D.hc 0 false 7,D.v K.s,D.v (K.i IntKind.i64),D.v (K.i IntKind.i64),D.v (K.i IntKind.i64),D.v (K.c (AV.sym 0)),D.v (K.i IntKind.i64),D.v (K.i IntKind.i64),D.vec 0 6] o f) P:=by
 obtain ⟨v,rfl,q,rfl,h⟩:=h
 exact k q h
theorem wdB {f:Bool->List Nat->Int->Int->Int->Int->Int->List AV->Option β} {R:Bool->PS->Prop} (h:Wp o fun v=>∃b q,v=outS (.bool b) q/\R b q) (k:∀b q,R b q->Wp (f b q.s q.i q.dp q.n q.e q.fa q.l) P):Wp (dD wk [D.v K.b,D.hc 0 false 7,D.v K.s,D.v (K.i IntKind.i64),D.v (K.i IntKind.i64),D.v (K.i IntKind.i64),D.v (K.c (AV.sym 0)),D.v (K.i IntKind.i64),D.v (K.i IntKind.i64),D.vec 0 6] o f) P:=by
 obtain ⟨v,rfl,b,q,rfl,h⟩:=h
 exact k b q h
theorem wdI {f:Int->List Nat->Int->Int->Int->Int->Int->List AV->Option β} {R:Int->PS->Prop} (h:Wp o fun v=>∃b q,v=outS (.int .i64 b) q/\R b q) (k:∀b q,R b q->Wp (f b q.s q.i q.dp q.n q.e q.fa q.l) P):Wp (dD wk [D.v (K.i IntKind.i64),D.hc 0 false 7,D.v K.s,D.v (K.i IntKind.i64),D.v (K.i IntKind.i64),D.v (K.i IntKind.i64),D.v (K.c (AV.sym 0)),D.v (K.i IntKind.i64),D.v (K.i IntKind.i64),D.vec 0 6] o f) P:=by
 obtain ⟨v,rfl,b,q,rfl,h⟩:=h
 exact k b q h
theorem wdS {f:List Nat->List Nat->Int->Int->Int->Int->Int->List AV->Option β} {R:List Nat->PS->Prop} (h:Wp o fun v=>∃b q,v=outS (.str b) q/\R b q) (k:∀b q,R b q->Wp (f b q.s q.i q.dp q.n q.e q.fa q.l) P):Wp (dD wk [D.v K.s,D.hc 0 false 7,D.v K.s,D.v (K.i IntKind.i64),D.v (K.i IntKind.i64),D.v (K.i IntKind.i64),D.v (K.c (AV.sym 0)),D.v (K.i IntKind.i64),D.v (K.i IntKind.i64),D.vec 0 6] o f) P:=by
 obtain ⟨v,rfl,b,q,rfl,h⟩:=h
 exact k b q h
end
def PS.nf (p:PS):Prop:=p.e=0/\p.fa=0
def WFn (j:Nat) (v:AV):Prop:=∃k s t n a b,v=nd6 k s t n a b/\(-9223372036854775808<=n/\n<=9223372036854775807)/\s.length<=24/\t.length<=32 ∧
 (k=7->∃a':Nat,a=Int.ofNat a'/\a'<j)/\(k=8\/k=9->∃a' b':Nat,a=Int.ofNat a'/\b=Int.ofNat b'/\a'<b'/\b'<j)
def WF (l:List AV):Prop:=∀j v,l[j]? = some v->WFn j v
structure Inv (p:PS):Prop where
 i0:0<=p.i
 i1:p.i<=p.s.length
 big:p.s.length<=1024
 ok:p.nf->0<=p.dp/\p.dp<=32/\(p.l.length:Int)<=p.n/\p.n<=64/\WF p.l
structure Stp (k:Int) (p q:PS):Prop where
 s:q.s=p.s
 i:p.i<=q.i
 nf:q.nf->p.nf/\q.dp=p.dp/\q.n-q.l.length=p.n-p.l.length+k/\p.l.length<=q.l.length
theorem Stp.trans {a b:Int} {p q r:PS} (h:Stp a p q) (k:Stp b q r):Stp (a+b) p r:=⟨k.s.trans h.s,Int.le_trans h.i k.i,fun hr=>by
 obtain ⟨q1,q2,q3,q4⟩:=k.nf hr
 obtain ⟨p1,p2,p3,p4⟩:=h.nf q1
 exact ⟨p1,q2.trans p2,by omega,Nat.le_trans p4 q4⟩⟩
theorem Stp.trans0 {p q r:PS} {b:Int} (h:Stp 0 p q) (k:Stp b q r):Stp b p r:=by have:=h.trans k;rwa [Int.zero_add] at this
theorem mv {p:PS} (h:Inv p) {i:Int} (h1:p.i<=i) (h2:i<=p.s.length):Inv { p with i:=i }/\Stp 0 p { p with i:=i }:=⟨⟨Int.le_trans h.i0 h1,h2,h.big,fun hn=>h.ok hn⟩,rfl,h1,fun hn=>⟨hn,rfl,by show p.n-p.l.length=_;omega,Nat.le_refl _⟩⟩
theorem nf_iff {p:PS}:(p.e==0&&p.fa==0)=true↔p.nf:=by unfold PS.nf;simp
theorem nf_false {p:PS} (h:(!(p.e==0&&p.fa==0))=true):¬p.nf:=fun hn=>by rw [nf_iff.2 hn] at h;cases h
theorem nf_true {p:PS} (h:(!(p.e==0&&p.fa==0))=false):p.nf:=nf_iff.1 (by revert h;cases (p.e==0&&p.fa==0) <;> simp)
theorem sp_blanks (p:PS) (h:Inv p):Wp (F_rule_parser_blanks p.s p.i p.dp p.n p.e p.fa p.l) fun v=>∃q,v=outS (.tup []) q/\Inv q/\Stp 0 p q/\q.l=p.l:=by
 have big:=h.big
 have loop:∀(n:Nat) (i:Int),p.i<=i->i<=p.s.length->p.s.length-i<n->Wp (F_rule_parser_blanks_l2 n p.s i p.dp p.n p.e p.fa p.l) fun v=>∃q,v=outS (.tup []) q/\Inv q/\Stp 0 p q/\q.l=p.l:=by
  intro n
  induction n with
  | zero=>intro i _ _ h;omega
  | succ n ih=>
   intro i h1 h2 hn
   have i0:=h.i0
   obtain ⟨j,rfl⟩:=Int.eq_ofNat_of_zero_le (Int.le_trans i0 h1)
   have fin:∃q,outS (.tup []) { p with i:=(j:Int) }=outS (.tup []) q/\Inv q/\Stp 0 p q/\q.l=p.l:=⟨{ p with i:=(j:Int) },rfl,(mv h h1 h2).1,(mv h h1 h2).2,rfl⟩
   rw [F_rule_parser_blanks_l2_eq]
   refine Wp.lt (i:=j) (fun hlt=>?_) fun _=>Wp.mk fin
   show Wp (bd (ixN p.s (Int.ofNat j)) _) _
   rw [ixN_at hlt]
   refine Wp.if (fun _=>?_) fun _=>Wp.mk fin
   rw [F_rule_parser_blanks_j0_eq,wrapx_of (by omega) (by omega)]
   exact ih _ (by omega) (by omega) (by omega)
 rw [F_rule_parser_blanks_eq]
 exact loop _ _ (Int.le_refl _) h.i1 (by have:=h.i0;have:=FUEL_gt (n:=1025) (by omega);omega)
theorem hasPrefix (t u:List Nat):∃b,F_strings_HasPrefix t u=some (.bool b)/\(b=true->u.length<=t.length):=by
 have:Wp (F_strings_HasPrefix t u) fun v=>∃b,v=.bool b/\(b=true->u.length<=t.length):=by
  rw [F_strings_HasPrefix_eq]
  refine wk_b (R:=fun b=>b=true->u.length<=t.length) ?_ fun b hb=>Wp.mk ⟨_,rfl,hb⟩
  rw [F_internal_stringslite_HasPrefix_eq]
  refine Wp.ite (fun hl=>Wp.gd ⟨Int.natCast_nonneg _,hl⟩ (Wp.mk ⟨_,rfl,fun _=>Int.ofNat_le.1 hl⟩)) fun _=>Wp.mk ⟨_,rfl,fun h=>(by cases h)⟩
 obtain ⟨v,e,b,rfl,h⟩:=this
 exact ⟨b,e,h⟩
theorem sp_is (p:PS) (h:Inv p) (t:List Nat) (ht:t.length<=2):Wp (F_rule_parser_is t p.s p.i p.dp p.n p.e p.fa p.l) fun v=>∃b q,v=outS (.bool b) q/\Inv q/\Stp 0 p q/\(b=true->p.i+t.length<=q.i)/\q.l=p.l:=by
 rw [F_rule_parser_is_eq]
 refine wdU (sp_blanks p h) fun q hq=>Wp.gd ⟨hq.1.i0,hq.1.i1⟩ ?_
 obtain ⟨b,hb,hl⟩:=hasPrefix (List.drop (Int.toNat q.i) (List.take (Int.toNat (Int.ofNat q.s.length)) q.s)) t
 refine qk_b hb (Wp.if (fun hb=>Wp.mk ⟨false,q,rfl,hq.1,hq.2.1,fun h=>(by cases h),hq.2.2⟩) fun hb=>?_)
 have hb:b=true:=by simpa using hb
 have hl:=hl hb
 rw [List.length_drop,List.length_take] at hl
 have e1:Int.toNat (Int.ofNat q.s.length)=q.s.length:=rfl
 have i0:=hq.1.i0;have i1:=hq.1.i1;have big:=hq.1.big;have st:=hq.2.1.i
 rw [e1,Nat.min_self] at hl
 rw [Int.ofNat_eq_natCast,wrapx_of (by omega) (by omega)]
 have m:=mv hq.1 (i:=q.i+t.length) (by omega) (by omega)
 exact Wp.mk ⟨true,{ q with i:=q.i+t.length },rfl,m.1,hq.2.1.trans m.2,fun _=>by show _<=q.i+(t.length:Int);omega,hq.2.2⟩
structure Inv0 (p:PS):Prop where
 i0:0<=p.i
 i1:p.i<=p.s.length
 big:p.s.length<=1024
theorem Inv.z {p:PS} (h:Inv p):Inv0 p:=⟨h.i0,h.i1,h.big⟩
theorem Stp.bad {p q:PS} {k:Int} (hs:q.s=p.s) (hi:p.i<=q.i) (hn:¬q.nf):Stp k p q:=⟨hs,hi,fun h=>absurd h hn⟩
theorem Inv0.bad {q:PS} (h:Inv0 q) (hn:¬q.nf):Inv q:=⟨h.i0,h.i1,h.big,fun h=>absurd h hn⟩
theorem sp_fails (e i:Int) (he:e≠0) (p:PS) (h:Inv0 p):Wp (F_rule_parser_fails e i p.s p.i p.dp p.n p.e p.fa p.l) fun v=>∃q,v=outS (.tup []) q/\Inv q/\q.s=p.s/\q.i=p.i/\¬q.nf:=by
 rw [F_rule_parser_fails_eq]
 refine Wp.if (fun hn=>?_) fun hn=>?_
 ·exact Wp.mk ⟨{ p with e:=e,fa:=i },rfl,⟨h.i0,h.i1,h.big,fun hn=>absurd hn.1 he⟩,rfl,rfl,fun hn=>he hn.1⟩
 ·have hn:¬p.nf:=fun hq=>by have hn:(p.e==0&&p.fa==0)=false:=hn;rw [nf_iff.2 hq] at hn;cases hn
  exact Wp.mk ⟨p,rfl,h.bad hn,rfl,rfl,hn⟩
theorem sp_count (i:Int) (p:PS) (h:Inv p):Wp (F_rule_parser_count i p.s p.i p.dp p.n p.e p.fa p.l) fun v=>∃q,v=outS (.tup []) q/\Inv q/\Stp 1 p q/\(q.nf->q.l=p.l):=by
 rw [F_rule_parser_count_eq]
 refine Wp.ite (fun hgt=>?_) fun hle=>?_
 ·refine wdU (sp_fails (Int.ofNat 3) i (by decide) { p with n:=wrapx .i64 (p.n+1) } ⟨h.i0,h.i1,h.big⟩) fun q hq=>Wp.mk ⟨q,rfl,hq.1,.bad hq.2.1 (by rw [hq.2.2.1];exact Int.le_refl _) hq.2.2.2,fun hn=>absurd hn hq.2.2.2⟩
 ·by_cases hn:p.nf
  ·obtain ⟨d0,d1,l1,n1,w⟩:=h.ok hn
   rw [wrapx_of (by omega) (by omega)] at hle ⊢
   exact Wp.mk ⟨{ p with n:=p.n+1 },rfl,⟨h.i0,h.i1,h.big,fun _=>⟨d0,d1,by show (p.l.length:Int)<=p.n+1;omega,by show p.n+1<=64;omega,w⟩⟩,⟨rfl,Int.le_refl _,fun _=>⟨hn,rfl,by show p.n+1-p.l.length=p.n-p.l.length+1;omega,Nat.le_refl _⟩⟩,fun _=>rfl⟩
  ·exact Wp.mk ⟨{ p with n:=wrapx .i64 (p.n+1) },rfl,Inv0.bad ⟨h.i0,h.i1,h.big⟩ hn,.bad rfl (Int.le_refl _) hn,fun h=>absurd h hn⟩
structure In (b:Bool) (p q:PS):Prop where
 s:q.s=p.s
 i:q.i=p.i
 nf:q.nf->b=true/\p.nf/\q.dp=p.dp+1/\q.n=p.n/\q.l=p.l
theorem sp_in (i:Int) (p:PS) (h:Inv p):Wp (F_rule_parser_in i p.s p.i p.dp p.n p.e p.fa p.l) fun v=>∃b q,v=outS (.bool b) q/\Inv q/\In b p q:=by
 rw [F_rule_parser_in_eq]
 refine Wp.ite (fun hgt=>?_) fun hle=>?_
 ·refine wdU (sp_fails (Int.ofNat 3) i (by decide) { p with dp:=wrapx .i64 (p.dp+1) } ⟨h.i0,h.i1,h.big⟩) fun q hq=>Wp.mk ⟨false,q,rfl,hq.1,hq.2.1,hq.2.2.1,fun hn=>absurd hn hq.2.2.2⟩
 ·by_cases hn:p.nf
  ·obtain ⟨d0,d1,l1,n1,w⟩:=h.ok hn
   rw [wrapx_of (by omega) (by omega)] at hle ⊢
   exact Wp.mk ⟨true,{ p with dp:=p.dp+1 },rfl,⟨h.i0,h.i1,h.big,fun _=>⟨by show 0<=p.dp+1;omega,by show p.dp+1<=32;omega,l1,n1,w⟩⟩,rfl,rfl,fun _=>⟨rfl,hn,rfl,rfl,rfl⟩⟩
  ·exact Wp.mk ⟨true,{ p with dp:=wrapx .i64 (p.dp+1) },rfl,Inv0.bad ⟨h.i0,h.i1,h.big⟩ hn,rfl,rfl,fun h=>absurd h hn⟩
def Res (p q:PS) (x:Int):Prop:=q.nf->x=(q.l.length:Int)-1/\p.l.length<q.l.length
theorem sp_node (p:PS) (h:Inv p) (k:Int) (s t:List Nat) (n a b:Int) (hx:p.nf->(p.l.length:Int)+1<=p.n) (hw:p.nf->WFn p.l.length (nd6 k s t n a b)):Wp (F_rule_parser_node k s t n a b p.s p.i p.dp p.n p.e p.fa p.l) fun v=>∃x q,v=outS (.int .i64 x) q/\Inv q/\Stp (-1) p q/\Res p q x:=by
 rw [F_rule_parser_node_eq]
 refine Wp.if (fun hn=>?_) fun hn=>?_
 ·have hn:¬p.nf:=nf_false hn
  exact Wp.mk ⟨_,p,rfl,h,.bad rfl (Int.le_refl _) hn,fun h=>absurd h hn⟩
 ·have hn:p.nf:=nf_true hn
  obtain ⟨d0,d1,l1,n1,w⟩:=h.ok hn
  have hx:=hx hn;have hw:=hw hn
  have hl:p.l.length<=63:=by omega
  refine Wp.gd ?_ (Wp.mk ⟨_,{ p with l:=p.l++[nd6 k s t n a b] },rfl,⟨h.i0,h.i1,h.big,fun _=>⟨d0,d1,?_,n1,?_⟩⟩,⟨rfl,Int.le_refl _,fun _=>⟨hn,rfl,?_,?_⟩⟩,fun _=>⟨?_,?_⟩⟩)
  ·show (p.l.length+1)*64<=roomBits/\p.l.length+1<=roomBits
   unfold roomBits;omega
  ·show ((p.l++[_]).length:Int)<=p.n
   rw [List.length_append];show ((p.l.length+1:Nat):Int)<=p.n;omega
  ·intro j v hv
   show WFn j v
   have hv:(p.l++[nd6 k s t n a b])[j]? = some v:=hv
   by_cases hj:j<p.l.length
   ·rw [List.getElem?_append_left hj] at hv;exact w j v hv
   ·rw [List.getElem?_append_right (by omega)] at hv
    have:j=p.l.length:=by
     by_cases e:j-p.l.length=0
     ·omega
     ·rw [List.getElem?_eq_none (by show 1<=_;omega)] at hv;cases hv
    subst this
    rw [Nat.sub_self] at hv
    cases hv
    exact hw
  ·show p.n-((p.l++[_]).length:Int)=p.n-p.l.length+-1
   rw [List.length_append];show p.n-((p.l.length+1:Nat):Int)=_;omega
  ·show p.l.length<=(p.l++[_]).length
   rw [List.length_append];omega
  ·show wrapx .i64 (Int.ofNat (p.l++[nd6 k s t n a b]).length-1)=((p.l++[nd6 k s t n a b]).length:Int)-1
   rw [List.length_append]
   show wrapx .i64 (Int.ofNat (p.l.length+1)-1)=((p.l.length+1:Nat):Int)-1
   rw [wrapx_pred (by omega) (by omega),Int.ofNat_eq_natCast];omega
  ·show p.l.length<(p.l++[_]).length
   rw [List.length_append];show _<p.l.length+1;omega
theorem leaf_1 (c:Nat):Wp (F_rule_parser_leaf_1 (Int.ofNat c)) isB:=by
 rw [F_rule_parser_leaf_1_eq]
 repeat' first | refine Wp.ite (fun _=>?_) (fun _=>?_) | refine Wp.if (fun _=>?_) (fun _=>?_) | exact Wp.mk ⟨_,rfl,trivial⟩ | refine qk_b (rule_digit _) ?_
theorem digit_b (c:Nat):Wp (F_rule_digit (Int.ofNat c)) isB:=⟨_,rule_digit _,_,rfl,trivial⟩
theorem sp_run_leaf (m:Int) (m0:0<=m) (m1:m<=1000) (p:PS) (h:Inv p):Wp (F_rule_parser_run_rule_parser_leaf_1 m p.s p.i p.dp p.n p.e p.fa p.l) fun v=>∃t q,v=outS (.str t) q/\Inv q/\Stp 0 p q/\(t.length:Int)<=m:=by
 have big:=h.big
 have loop:∀(n:Nat) (i:Int),p.i<=i->i<=p.s.length->i-p.i<=m->p.s.length-i<n->Wp (F_rule_parser_run_rule_parser_leaf_1_l4 n m p.i p.s i p.dp p.n p.e p.fa p.l) fun v=>∃t q,v=outS (.str t) q/\Inv q/\Stp 0 p q/\(t.length:Int)<=m:=by
  intro n
  induction n with
  | zero=>intro i _ _ _ h;omega
  | succ n ih=>
   intro i h1 h2 h3 hn
   have i0:=h.i0
   obtain ⟨j,rfl⟩:=Int.eq_ofNat_of_zero_le (Int.le_trans i0 h1)
   have fin:Wp (gd (decide (0<=p.i/\p.i<=(j:Int)/\(j:Int)<=Int.ofNat p.s.length)) (some (AV.str (List.drop (Int.toNat p.i) (List.take (Int.toNat (j:Int)) p.s)),[(0,HO.cells false [.str p.s,.int .i64 (j:Int),.int .i64 p.dp,.int .i64 p.n,AV.sym 0,.int .i64 p.e,.int .i64 p.fa])],[(0,VI.vec 6 p.l)]))) fun v=>∃t q,v=outS (.str t) q/\Inv q/\Stp 0 p q/\(t.length:Int)<=m:=by
    refine Wp.gd ⟨i0,h1,h2⟩ (Wp.mk ⟨_,{ p with i:=(j:Int) },rfl,(mv h h1 h2).1,(mv h h1 h2).2,?_⟩)
    rw [List.length_drop,List.length_take]
    have e:Int.toNat (j:Int)=j:=rfl
    rw [e];omega
   rw [F_rule_parser_run_rule_parser_leaf_1_l4_eq]
   refine Wp.lt (i:=j) (fun hlt=>Wp.ite (fun hm=>?_) fun _=>fin) fun _=>fin
   show Wp (bd (ixN p.s (Int.ofNat j)) _) _
   rw [ixN_at hlt]
   rw [wrapx_of (by omega) (by omega)] at hm
   refine wk_b (leaf_1 _) fun b _=>Wp.if (fun _=>?_) fun _=>fin
   rw [F_rule_parser_run_rule_parser_leaf_1_j0_eq,wrapx_of (by omega) (by omega)]
   exact ih _ (by omega) (by omega) (by omega) (by omega)
 rw [F_rule_parser_run_rule_parser_leaf_1_eq]
 exact loop _ _ (Int.le_refl _) h.i1 (by omega) (by have:=h.i0;have:=FUEL_gt (n:=1025) (by omega);omega)
theorem sp_run_word (m:Int) (m0:0<=m) (m1:m<=1000) (p:PS) (h:Inv p):Wp (F_rule_parser_run_rule_inWord m p.s p.i p.dp p.n p.e p.fa p.l) fun v=>∃t q,v=outS (.str t) q/\Inv q/\Stp 0 p q/\(t.length:Int)<=m:=by
 have big:=h.big
 have loop:∀(n:Nat) (i:Int),p.i<=i->i<=p.s.length->i-p.i<=m->p.s.length-i<n->Wp (F_rule_parser_run_rule_inWord_l4 n m p.i p.s i p.dp p.n p.e p.fa p.l) fun v=>∃t q,v=outS (.str t) q/\Inv q/\Stp 0 p q/\(t.length:Int)<=m:=by
  intro n
  induction n with
  | zero=>intro i _ _ _ h;omega
  | succ n ih=>
   intro i h1 h2 h3 hn
   have i0:=h.i0
   obtain ⟨j,rfl⟩:=Int.eq_ofNat_of_zero_le (Int.le_trans i0 h1)
   have fin:Wp (gd (decide (0<=p.i/\p.i<=(j:Int)/\(j:Int)<=Int.ofNat p.s.length)) (some (AV.str (List.drop (Int.toNat p.i) (List.take (Int.toNat (j:Int)) p.s)),[(0,HO.cells false [.str p.s,.int .i64 (j:Int),.int .i64 p.dp,.int .i64 p.n,AV.sym 0,.int .i64 p.e,.int .i64 p.fa])],[(0,VI.vec 6 p.l)]))) fun v=>∃t q,v=outS (.str t) q/\Inv q/\Stp 0 p q/\(t.length:Int)<=m:=by
    refine Wp.gd ⟨i0,h1,h2⟩ (Wp.mk ⟨_,{ p with i:=(j:Int) },rfl,(mv h h1 h2).1,(mv h h1 h2).2,?_⟩)
    rw [List.length_drop,List.length_take]
    have e:Int.toNat (j:Int)=j:=rfl
    rw [e];omega
   rw [F_rule_parser_run_rule_inWord_l4_eq]
   refine Wp.lt (i:=j) (fun hlt=>Wp.ite (fun hm=>?_) fun _=>fin) fun _=>fin
   show Wp (bd (ixN p.s (Int.ofNat j)) _) _
   rw [ixN_at hlt]
   rw [wrapx_of (by omega) (by omega)] at hm
   refine wk_b (rule_inWord _) fun b _=>Wp.if (fun _=>?_) fun _=>fin
   rw [F_rule_parser_run_rule_inWord_j0_eq,wrapx_of (by omega) (by omega)]
   exact ih _ (by omega) (by omega) (by omega) (by omega)
 rw [F_rule_parser_run_rule_inWord_eq]
 exact loop _ _ (Int.le_refl _) h.i1 (by omega) (by have:=h.i0;have:=FUEL_gt (n:=1025) (by omega);omega)
theorem sp_run_digit (m:Int) (m0:0<=m) (m1:m<=1000) (p:PS) (h:Inv p):Wp (F_rule_parser_run_rule_digit m p.s p.i p.dp p.n p.e p.fa p.l) fun v=>∃t q,v=outS (.str t) q/\Inv q/\Stp 0 p q/\(t.length:Int)<=m:=by
 have big:=h.big
 have loop:∀(n:Nat) (i:Int),p.i<=i->i<=p.s.length->i-p.i<=m->p.s.length-i<n->Wp (F_rule_parser_run_rule_digit_l4 n m p.i p.s i p.dp p.n p.e p.fa p.l) fun v=>∃t q,v=outS (.str t) q/\Inv q/\Stp 0 p q/\(t.length:Int)<=m:=by
  intro n
  induction n with
  | zero=>intro i _ _ _ h;omega
  | succ n ih=>
   intro i h1 h2 h3 hn
   have i0:=h.i0
   obtain ⟨j,rfl⟩:=Int.eq_ofNat_of_zero_le (Int.le_trans i0 h1)
   have fin:Wp (gd (decide (0<=p.i/\p.i<=(j:Int)/\(j:Int)<=Int.ofNat p.s.length)) (some (AV.str (List.drop (Int.toNat p.i) (List.take (Int.toNat (j:Int)) p.s)),[(0,HO.cells false [.str p.s,.int .i64 (j:Int),.int .i64 p.dp,.int .i64 p.n,AV.sym 0,.int .i64 p.e,.int .i64 p.fa])],[(0,VI.vec 6 p.l)]))) fun v=>∃t q,v=outS (.str t) q/\Inv q/\Stp 0 p q/\(t.length:Int)<=m:=by
    refine Wp.gd ⟨i0,h1,h2⟩ (Wp.mk ⟨_,{ p with i:=(j:Int) },rfl,(mv h h1 h2).1,(mv h h1 h2).2,?_⟩)
    rw [List.length_drop,List.length_take]
    have e:Int.toNat (j:Int)=j:=rfl
    rw [e];omega
   rw [F_rule_parser_run_rule_digit_l4_eq]
   refine Wp.lt (i:=j) (fun hlt=>Wp.ite (fun hm=>?_) fun _=>fin) fun _=>fin
   show Wp (bd (ixN p.s (Int.ofNat j)) _) _
   rw [ixN_at hlt]
   rw [wrapx_of (by omega) (by omega)] at hm
   refine wk_b (digit_b _) fun b _=>Wp.if (fun _=>?_) fun _=>fin
   rw [F_rule_parser_run_rule_digit_j0_eq,wrapx_of (by omega) (by omega)]
   exact ih _ (by omega) (by omega) (by omega) (by omega)
 rw [F_rule_parser_run_rule_digit_eq]
 exact loop _ _ (Int.le_refl _) h.i1 (by omega) (by have:=h.i0;have:=FUEL_gt (n:=1025) (by omega);omega)
end Go.Proofs.YthiefohjkbdjeaaGreatDoor.scoreBounds
namespace Go.Proofs.YthiefohjkbdjeaaGreatDoor.scoreBounds
open Go Go.Sy
theorem rule_number (s:List Nat) (h:s.length<=1000):Wp (F_rule_number s) fun v=>∃n,v=.int .i64 n/\(-9223372036854775808<=n/\n<=9223372036854775807):=by
 rw [F_rule_number_eq]
 obtain ⟨n,v,e,h0,h1⟩:=ext_ParseInt s h
 exact qk_T2iv e (Wp.mk ⟨n,rfl,h0,h1⟩)
theorem sp_word (p:PS) (h:Inv p):Wp (F_rule_parser_word p.s p.i p.dp p.n p.e p.fa p.l) fun v=>∃t q,v=outS (.str t) q/\Inv q/\Stp 0 p q/\t.length<=32:=by
 rw [F_rule_parser_word_eq]
 refine wdU (sp_blanks p h) fun q hq=>wdS (sp_run_word (Int.ofNat 32) (by decide) (by decide) q hq.1) fun t r hr=>?_
 have hl:t.length<=32:=by have:=hr.2.2;rw [Int.ofNat_eq_natCast] at this;omega
 refine Wp.if (fun _=>wdU (sp_fails _ _ (by decide) r hr.1.z) fun u hu=>Wp.mk ⟨t,u,rfl,hu.1,?_,hl⟩) fun _=>Wp.mk ⟨t,r,rfl,hr.1,hq.2.1.trans0 hr.2.1,hl⟩
 have:=hq.2.1.trans0 hr.2.1
 exact .bad (hu.2.1.trans this.s) (by rw [hu.2.2.1];exact this.i) hu.2.2.2
theorem sp_digits (p:PS) (h:Inv p):Wp (F_rule_parser_digits p.s p.i p.dp p.n p.e p.fa p.l) fun v=>∃x q,v=outS (.int .i64 x) q/\Inv q/\Stp 0 p q/\(-9223372036854775808<=x/\x<=9223372036854775807):=by
 rw [F_rule_parser_digits_eq]
 refine wdU (sp_blanks p h) fun q hq=>wdS (sp_run_digit (Int.ofNat 12) (by decide) (by decide) q hq.1) fun t r hr=>?_
 have hl:t.length<=1000:=by have:=hr.2.2;rw [Int.ofNat_eq_natCast] at this;omega
 refine Wp.if (fun _=>wdU (sp_fails _ _ (by decide) r hr.1.z) fun u hu=>wk_i (rule_number t hl) fun x hx=>Wp.mk ⟨x,u,rfl,hu.1,?_,hx⟩) fun _=>wk_i (rule_number t hl) fun x hx=>Wp.mk ⟨x,r,rfl,hr.1,hq.2.1.trans0 hr.2.1,hx⟩
 have:=hq.2.1.trans0 hr.2.1
 exact .bad (hu.2.1.trans this.s) (by rw [hu.2.2.1];exact this.i) hu.2.2.2
def Post (p:PS) (v:AV×Heap×Vecs):Prop:=∃x q,v=outS (.int .i64 x) q/\Inv q/\Stp 0 p q/\Res p q x
theorem Post.bad {p q:PS} (hi:Inv q) (hs:q.s=p.s) (hle:p.i<=q.i) (hn:¬q.nf) (x:Int):Post p (outS (.int .i64 x) q):=⟨x,q,rfl,hi,.bad hs hle hn,fun h=>absurd h hn⟩
theorem Res.of {a:Int} {p q r:PS} {x:Int} (h:Stp a p q) (k:Res q r x) (hs:Stp (-1) q r):Res p r x:=fun hr=>by
 obtain ⟨k1,k2⟩:=k hr
 have:=(h.nf (hs.nf hr).1).2.2.2
 exact ⟨k1,by omega⟩
theorem sp_last (p q:PS) (hp:Inv p) (hq:Inv q) (h:Stp 1 p q) (k:Int) (s t:List Nat) (n a b:Int) (hw:q.nf->WFn q.l.length (nd6 k s t n a b)):Wp (F_rule_parser_node k s t n a b q.s q.i q.dp q.n q.e q.fa q.l) (Post p):=by
 refine (sp_node q hq k s t n a b (fun hn=>?_) hw).mono fun v hv=>?_
 ·obtain ⟨p1,p2,p3,p4⟩:=h.nf hn
  have:=(hp.ok p1).2.2.1
  omega
 ·obtain ⟨x,r,rfl,h1,h2,h3⟩:=hv
  exact ⟨x,r,rfl,h1,h.trans h2,Res.of h h3 h2⟩
theorem WFn.leaf {j:Nat} {k n:Int} {s t:List Nat} (hn:-9223372036854775808<=n/\n<=9223372036854775807) (hs:s.length<=24) (ht:t.length<=32) (h:k<=6):WFn j (nd6 k s t n (Int.negSucc 0) (Int.negSucc 0)):=⟨k,s,t,n,_,_,rfl,hn,hs,ht,fun e=>by omega,fun e=>by omega⟩
theorem leaf_j6 (p q:PS) (hp:Inv p) (hq:Inv q) (h:Stp 1 p q) (k:Int) (s t:List Nat) (n:Int) (hn:-9223372036854775808<=n/\n<=9223372036854775807) (hs:s.length<=24) (ht:t.length<=32) (hk:k<=6):Wp (F_rule_parser_leaf_j6 q.s q.i q.dp q.n q.e q.fa k s t n (Int.negSucc 0) (Int.negSucc 0) q.l) (Post p):=by
 rw [F_rule_parser_leaf_j6_eq]
 refine wdI (R:=fun x r=>Inv r/\Stp 0 p r/\Res p r x) ((sp_last p q hp hq h k s t n _ _ fun _=>WFn.leaf hn hs ht hk).mono fun v hv=>?_) fun x r hr=>Wp.mk ⟨x,r,rfl,hr⟩
 obtain ⟨x,r,rfl,hr⟩:=hv
 exact ⟨x,r,rfl,hr⟩
theorem leaf_j7 (p q:PS) (hp:Inv p) (hq:Inv q) (h:Stp 1 p q) (b:Bool) (k:Int) (s t:List Nat) (n:Int) (hn:-9223372036854775808<=n/\n<=9223372036854775807) (hs:s.length<=24) (ht:t.length<=32) (hk:k<=6):Wp (F_rule_parser_leaf_j7 b q.s q.i q.dp q.n q.e q.fa k s t n (Int.negSucc 0) (Int.negSucc 0) q.l) (Post p):=by
 rw [F_rule_parser_leaf_j7_eq]
 refine Wp.if (fun _=>wdU (sp_fails _ _ (by decide) q hq.z) fun r hr=>leaf_j6 p r hp hr.1 (.bad (hr.2.1.trans h.s) (by rw [hr.2.2.1];exact h.i) hr.2.2.2) k s t n hn hs ht hk) fun _=>leaf_j6 p q hp hq h k s t n hn hs ht hk
theorem z64:(-9223372036854775808:Int)<=Int.ofNat 0/\Int.ofNat 0<=(9223372036854775807:Int):=by decide
theorem leaf_j4 (p q:PS) (hp:Inv p) (hq:Inv q) (h:Stp 0 p q) (i:Int) (s:List Nat) (hs:s.length<=24):Wp (F_rule_parser_leaf_j4 i s q.s q.i q.dp q.n q.e q.fa q.l) (Post p):=by
 rw [F_rule_parser_leaf_j4_eq]
 refine wdU (sp_count i q hq) fun r hr=>?_
 have st:Stp 1 p r:=h.trans0 hr.2.1
 have nx:∀{u v:PS},Stp 1 p u->Stp 0 u v->Stp 1 p v:=fun a b=>a.trans b
 refine wdB (sp_is r hr.1 _ (by decide)) fun b u hu=>Wp.if (fun _=>wdS (sp_word u hu.1) fun t v hv=>leaf_j6 p v hp hv.1 (nx (nx st hu.2.1) hv.2.1) _ s t _ z64 hs hv.2.2 (by decide)) fun _=>?_
 have st:=nx st hu.2.1
 refine wdB (sp_is u hu.1 _ (by decide)) fun b r hr=>Wp.if (fun _=>wdI (sp_digits r hr.1) fun t v hv=>leaf_j6 p v hp hv.1 (nx (nx st hr.2.1) hv.2.1) _ s [] _ hv.2.2 hs (by decide) (by decide)) fun _=>?_
 have st:=nx st hr.2.1
 refine wdB (sp_is r hr.1 _ (by decide)) fun b u hu=>Wp.if (fun _=>wdI (sp_digits u hu.1) fun t v hv=>leaf_j6 p v hp hv.1 (nx (nx st hu.2.1) hv.2.1) _ s [] _ hv.2.2 hs (by decide) (by decide)) fun _=>?_
 have st:=nx st hu.2.1
 refine wdB (sp_is u hu.1 _ (by decide)) fun b r hr=>Wp.if (fun _=>wdS (sp_word r hr.1) fun t v hv=>leaf_j6 p v hp hv.1 (nx (nx st hr.2.1) hv.2.1) _ s t _ z64 hs hv.2.2 (by decide)) fun _=>?_
 have st:=nx st hr.2.1
 refine wdB (sp_is r hr.1 _ (by decide)) fun b u hu=>Wp.if (fun _=>leaf_j7 p u hp hu.1 (nx st hu.2.1) _ _ s [] _ z64 hs (by decide) (by decide)) fun _=>?_
 have st:=nx st hu.2.1
 refine wdB (sp_is u hu.1 _ (by decide)) fun b r hr=>Wp.if (fun _=>leaf_j7 p r hp hr.1 (nx st hr.2.1) _ _ s [] _ z64 hs (by decide) (by decide)) fun _=>?_
 have st:=nx st hr.2.1
 exact wdB (sp_is r hr.1 _ (by decide)) fun b u hu=>leaf_j7 p u hp hu.1 (nx st hu.2.1) _ _ s [] _ z64 hs (by decide) (by decide)
theorem leaf_j5 (p q:PS) (hp:Inv p) (hq:Inv q) (h:Stp 0 p q) (i:Int) (s:List Nat) (b:Bool) (hs:s.length<=24):Wp (F_rule_parser_leaf_j5 i s b q.s q.i q.dp q.n q.e q.fa q.l) (Post p):=by
 rw [F_rule_parser_leaf_j5_eq]
 exact Wp.if (fun _=>wdU (sp_fails _ _ (by decide) q hq.z) fun r hr=>Wp.mk (.bad hr.1 (hr.2.1.trans h.s) (by rw [hr.2.2.1];exact h.i) hr.2.2.2 _)) fun _=>leaf_j4 p q hp hq h i s hs
theorem leaf_j2 (p q:PS) (hp:Inv p) (hq:Inv q) (h:Stp 0 p q) (i:Int) (s:List Nat) (hs:s.length<=24):Wp (F_rule_parser_leaf_j2 i s q.s q.i q.dp q.n q.e q.fa q.l) (Post p):=by
 rw [F_rule_parser_leaf_j2_eq]
 refine Wp.ite (fun hlt=>?_) fun _=>leaf_j5 p q hp hq h i s _ hs
 obtain ⟨x,hx,_⟩:=ixN_lt hq.i0 hlt
 rw [hx]
 exact wk_b (rule_inWord x) fun b _=>leaf_j5 p q hp hq h i s _ hs
theorem leaf_j3 (p q:PS) (hp:Inv p) (hq:Inv q) (h:Stp 0 p q) (i:Int) (s:List Nat) (b:Bool) (hs:s.length<=24):Wp (F_rule_parser_leaf_j3 i s b q.s q.i q.dp q.n q.e q.fa q.l) (Post p):=by
 rw [F_rule_parser_leaf_j3_eq]
 refine Wp.if (fun _=>wdU (sp_count i q hq) fun r hr=>wdI (R:=fun x r=>Inv r/\Stp 0 p r/\Res p r x) ((sp_last p r hp hr.1 (h.trans0 hr.2.1) _ _ _ _ _ _ fun _=>WFn.leaf z64 (by decide) (by decide) (by decide)).mono fun v hv=>?_) fun x r hr=>Wp.mk ⟨x,r,rfl,hr⟩) fun _=>leaf_j2 p q hp hq h i s hs
 obtain ⟨x,r,rfl,hr⟩:=hv
 exact ⟨x,r,rfl,hr⟩
theorem leaf_j0 (p:PS) (hp:Inv p) (i:Int):Wp (F_rule_parser_leaf_j0 i p.s p.i p.dp p.n p.e p.fa p.l) (Post p):=by
 rw [F_rule_parser_leaf_j0_eq]
 refine wdS (sp_run_leaf (Int.ofNat 24) (by decide) (by decide) p hp) fun t q hq=>?_
 have hl:t.length<=24:=by have:=hq.2.2;rw [Int.ofNat_eq_natCast] at this;omega
 refine Wp.if (fun _=>Wp.ite (fun hlt=>?_) fun _=>leaf_j3 p q hp hq.1 hq.2.1 i t _ hl) fun _=>leaf_j3 p q hp hq.1 hq.2.1 i t _ hl
 obtain ⟨x,hx,_⟩:=ixN_lt hq.1.i0 hlt
 rw [hx]
 exact wk_b (rule_inWord x) fun b _=>leaf_j3 p q hp hq.1 hq.2.1 i t _ hl
theorem leaf_j1 (p:PS) (hp:Inv p) (i:Int) (b:Bool):Wp (F_rule_parser_leaf_j1 i b p.s p.i p.dp p.n p.e p.fa p.l) (Post p):=by
 rw [F_rule_parser_leaf_j1_eq]
 exact Wp.if (fun _=>wdU (sp_fails _ _ (by decide) p hp.z) fun r hr=>Wp.mk (.bad hr.1 hr.2.1 (by rw [hr.2.2.1];exact Int.le_refl _) hr.2.2.2 _)) fun _=>leaf_j0 p hp i
theorem sp_leaf (p:PS) (hp:Inv p):Wp (F_rule_parser_leaf p.s p.i p.dp p.n p.e p.fa p.l) (Post p):=by
 rw [F_rule_parser_leaf_eq]
 refine Wp.if (fun _=>leaf_j1 p hp _ _) fun hne=>?_
 have hlt:p.i<Int.ofNat p.s.length:=by
  have h1:=hp.i1
  have h2:¬p.i=Int.ofNat p.s.length:=by simpa using hne
  rw [Int.ofNat_eq_natCast] at h2 ⊢
  omega
 obtain ⟨x,hx,_⟩:=ixN_lt hp.i0 hlt
 rw [hx]
 exact Wp.if (fun _=>leaf_j1 p hp _ _) fun _=>leaf_j1 p hp _ _
end Go.Proofs.YthiefohjkbdjeaaGreatDoor.scoreBounds
namespace Go.Proofs.YthiefohjkbdjeaaGreatDoor.scoreBounds
open Go Go.Sy
noncomputable def PS.m (p:PS):Nat:=(Classical.propDecidable p.nf).casesOn (fun _=>0) fun _=>(33-p.dp).toNat
theorem m_nf {p:PS} (h:p.nf):p.m=(33-p.dp).toNat:=by
 unfold PS.m
 cases Classical.propDecidable p.nf with
 | isTrue _=>rfl
 | isFalse h'=>exact absurd h h'
theorem m_bad {p:PS} (h:¬p.nf):p.m=0:=by
 unfold PS.m
 cases Classical.propDecidable p.nf with
 | isTrue h'=>exact absurd h' h
 | isFalse h'=>rfl
theorem Stp.m {k:Int} {p q:PS} (h:Stp k p q):q.m<=p.m:=by
 by_cases hn:q.nf
 ·obtain ⟨h1,h2,_⟩:=h.nf hn
  rw [m_nf hn,m_nf h1,h2]
  exact Nat.le_refl _
 ·rw [m_bad hn];exact Nat.zero_le _
theorem Stp.m0 {k:Int} {p q:PS} (h:Stp k p q) (hp:Inv p) {b:Bool} {r:PS} (hi:In b q r):5*r.m+5<=5*p.m\/¬p.nf:=by
 by_cases hn:r.nf
 ·obtain ⟨_,h1,h2,_⟩:=hi.nf hn
  obtain ⟨h3,h4,_⟩:=h.nf h1
  have:=hp.ok h3
  rw [m_nf hn,m_nf h3]
  left
  omega
 ·by_cases hp':p.nf
  ·rw [m_bad hn,m_nf hp']
   have:=hp.ok hp'
   left
   omega
  ·exact .inr hp'
def SpN (d:Nat):Prop:=∀p,Inv p->5*p.m+1<=d->Wp (F_rule_parser_not d p.s p.i p.dp p.n p.e p.fa p.l) (Post p)
def SpPN (d:Nat):Prop:=∀p (t:List Nat) (k:Int),Inv p->5*p.m+2<=d->1<=t.length->t.length<=2->k=8\/k=9->Wp (F_rule_parser_pairs_rule_parser_not d t k p.s p.i p.dp p.n p.e p.fa p.l) (Post p)
def SpA (d:Nat):Prop:=∀p,Inv p->5*p.m+3<=d->Wp (F_rule_parser_and d p.s p.i p.dp p.n p.e p.fa p.l) (Post p)
def SpPA (d:Nat):Prop:=∀p (t:List Nat) (k:Int),Inv p->5*p.m+4<=d->1<=t.length->t.length<=2->k=8\/k=9->Wp (F_rule_parser_pairs_rule_parser_and d t k p.s p.i p.dp p.n p.e p.fa p.l) (Post p)
def SpO (d:Nat):Prop:=∀p,Inv p->5*p.m+5<=d->Wp (F_rule_parser_or d p.s p.i p.dp p.n p.e p.fa p.l) (Post p)
theorem Post.out {p:PS} {o:Option (AV×Heap×Vecs)} (h:Wp o (Post p)):Wp o fun v=>∃x q,v=outS (.int .i64 x) q/\(Inv q/\Stp 0 p q/\Res p q x):=h
theorem WFn.two {p q r:PS} {k x y:Int} (hk:k=8\/k=9) (hx:q.nf->x=(q.l.length:Int)-1/\p.l.length<q.l.length) (hy:r.nf->y=(r.l.length:Int)-1/\q.l.length<r.l.length) (h:r.nf->q.nf) (hr:r.nf):WFn r.l.length (nd6 k [] [] (Int.ofNat 0) x y):=by
 obtain ⟨x1,x2⟩:=hx (h hr)
 obtain ⟨y1,y2⟩:=hy hr
 refine ⟨k,[],[],_,_,_,rfl,z64,by decide,by decide,fun e=>by omega,fun _=>⟨q.l.length-1,r.l.length-1,?_,?_,by omega,by omega⟩⟩
 ·rw [Int.ofNat_eq_natCast];omega
 ·rw [Int.ofNat_eq_natCast];omega
theorem sp_last2 (p q:PS) (hp:Inv p) (hq:Inv q) (h:Stp 1 p q) (k:Int) (s t:List Nat) (n a b:Int) (hw:q.nf->WFn q.l.length (nd6 k s t n a b)):Wp (F_rule_parser_node k s t n a b q.s q.i q.dp q.n q.e q.fa q.l) fun v=>∃x r,v=outS (.int .i64 x) r/\(Inv r/\Stp 0 p r/\Res p r x)/\Stp (-1) q r:=by
 refine (sp_node q hq k s t n a b (fun hn=>?_) hw).mono fun v hv=>?_
 ·obtain ⟨p1,p2,p3,p4⟩:=h.nf hn
  have:=(hp.ok p1).2.2.1
  omega
 ·obtain ⟨x,r,rfl,h1,h2,h3⟩:=hv
  exact ⟨x,r,rfl,⟨h1,h.trans h2,Res.of h h3 h2⟩,h2⟩
theorem pairs_not {d:Nat} (hN:SpN d):SpPN (d+1):=by
 intro p t k hp hd t1 t2 hk
 have loop:∀(n:Nat) (q:PS) (x:Int),Inv q->Stp 0 p q->Res p q x->q.s.length-q.i<n->Wp (F_rule_parser_pairs_rule_parser_not_l9 d n t k x q.s q.i q.dp q.n q.e q.fa q.l) (Post p):=by
  intro n
  induction n with
  | zero=>intro q x hq _ _ h;have:=hq.i1;omega
  | succ n ih=>
   intro q x hq st hx hn
   rw [F_rule_parser_pairs_rule_parser_not_l9_eq]
   refine Wp.if (fun _=>?_) fun _=>Wp.mk ⟨x,q,rfl,hq,st,hx⟩
   refine wdU (sp_blanks q hq) fun q1 h1=>wdB (sp_is q1 h1.1 t t2) fun b q2 h2=>?_
   have s2:=h1.2.1.trans0 h2.2.1
   have l2:q2.l=q.l:=h2.2.2.2.trans h1.2.2
   have x2:Res p q2 x:=fun hn2=>by rw [l2];exact hx (s2.nf hn2).1
   refine Wp.if (fun _=>Wp.mk ⟨x,q2,rfl,h2.1,st.trans0 s2,x2⟩) fun hb=>?_
   have hb:b=true:=by simpa using hb
   have adv:=h2.2.2.1 hb
   refine wdU (sp_count q1.i q2 h2.1) fun q3 h3=>?_
   have s3:=(st.trans0 s2).trans0 h3.2.1
   have m3:=s3.m
   refine wdI (Post.out (hN q3 h3.1 (by omega))) fun y q4 h4=>?_
   have s4:Stp 1 p q4:=s3.trans h4.2.1
   refine wdI ((sp_last2 p q4 hp h4.1 s4 k [] [] _ x y fun h4n=>WFn.two (p:=p) (q:=q2) (r:=q4) hk x2 (fun hr=>?_) (fun hr=>(h3.2.1.nf (h4.2.1.nf hr).1).1) h4n)) fun z q5 h5=>ih q5 z h5.1.1 h5.1.2.1 h5.1.2.2 ?_
   ·have:=h4.2.2 hr
    rw [h3.2.2 (h4.2.1.nf hr).1] at this
    exact this
   ·have e1:=((s2.trans0 h3.2.1).trans h4.2.1).trans h5.2
    have:=h1.2.1.i;have:=h3.2.1.i;have:=h4.2.1.i;have:=h5.2.i
    have:q5.s.length=q.s.length:=congrArg List.length e1.s
    omega
 rw [F_rule_parser_pairs_rule_parser_not_eq]
 refine wdI (Post.out (hN p hp (by omega))) fun x q hq=>loop _ q x hq.1 hq.2.1 hq.2.2 ?_
 have:=hq.1.i0;have:=hq.1.big;have:=FUEL_gt (n:=1025) (by omega);omega
theorem pairs_and {d:Nat} (hN:SpA d):SpPA (d+1):=by
 intro p t k hp hd t1 t2 hk
 have loop:∀(n:Nat) (q:PS) (x:Int),Inv q->Stp 0 p q->Res p q x->q.s.length-q.i<n->Wp (F_rule_parser_pairs_rule_parser_and_l9 d n t k x q.s q.i q.dp q.n q.e q.fa q.l) (Post p):=by
  intro n
  induction n with
  | zero=>intro q x hq _ _ h;have:=hq.i1;omega
  | succ n ih=>
   intro q x hq st hx hn
   rw [F_rule_parser_pairs_rule_parser_and_l9_eq]
   refine Wp.if (fun _=>?_) fun _=>Wp.mk ⟨x,q,rfl,hq,st,hx⟩
   refine wdU (sp_blanks q hq) fun q1 h1=>wdB (sp_is q1 h1.1 t t2) fun b q2 h2=>?_
   have s2:=h1.2.1.trans0 h2.2.1
   have l2:q2.l=q.l:=h2.2.2.2.trans h1.2.2
   have x2:Res p q2 x:=fun hn2=>by rw [l2];exact hx (s2.nf hn2).1
   refine Wp.if (fun _=>Wp.mk ⟨x,q2,rfl,h2.1,st.trans0 s2,x2⟩) fun hb=>?_
   have hb:b=true:=by simpa using hb
   have adv:=h2.2.2.1 hb
   refine wdU (sp_count q1.i q2 h2.1) fun q3 h3=>?_
   have s3:=(st.trans0 s2).trans0 h3.2.1
   have m3:=s3.m
   refine wdI (Post.out (hN q3 h3.1 (by omega))) fun y q4 h4=>?_
   have s4:Stp 1 p q4:=s3.trans h4.2.1
   refine wdI ((sp_last2 p q4 hp h4.1 s4 k [] [] _ x y fun h4n=>WFn.two (p:=p) (q:=q2) (r:=q4) hk x2 (fun hr=>?_) (fun hr=>(h3.2.1.nf (h4.2.1.nf hr).1).1) h4n)) fun z q5 h5=>ih q5 z h5.1.1 h5.1.2.1 h5.1.2.2 ?_
   ·have:=h4.2.2 hr
    rw [h3.2.2 (h4.2.1.nf hr).1] at this
    exact this
   ·have e1:=((s2.trans0 h3.2.1).trans h4.2.1).trans h5.2
    have:=h1.2.1.i;have:=h3.2.1.i;have:=h4.2.1.i;have:=h5.2.i
    have:q5.s.length=q.s.length:=congrArg List.length e1.s
    omega
 rw [F_rule_parser_pairs_rule_parser_and_eq]
 refine wdI (Post.out (hN p hp (by omega))) fun x q hq=>loop _ q x hq.1 hq.2.1 hq.2.2 ?_
 have:=hq.1.i0;have:=hq.1.big;have:=FUEL_gt (n:=1025) (by omega);omega
theorem sp_and {d:Nat} (h:SpPN d):SpA (d+1):=by
 intro p hp hd
 rw [F_rule_parser_and_eq]
 exact wdI (Post.out (h p _ _ hp (by omega) (by decide) (by decide) (.inl rfl))) fun x q hq=>Wp.mk ⟨x,q,rfl,hq⟩
theorem sp_or {d:Nat} (h:SpPA d):SpO (d+1):=by
 intro p hp hd
 rw [F_rule_parser_or_eq]
 exact wdI (Post.out (h p _ _ hp (by omega) (by decide) (by decide) (.inr rfl))) fun x q hq=>Wp.mk ⟨x,q,rfl,hq⟩
theorem up {p q r u:PS} {b:Bool} {k:Int} (hq:Inv q) (h:Stp 0 p q) (hi:In b q r) (hs:Stp k r u) (hu:Inv u):Inv { u with dp:=wrapx .i64 (u.dp-1) }/\Stp k p { u with dp:=wrapx .i64 (u.dp-1) }/\(u.nf->q.l=r.l):=by
 refine ⟨⟨hu.i0,hu.i1,hu.big,fun hn=>?_⟩,⟨hs.s.trans (hi.s.trans h.s),?_,fun hn=>?_⟩,fun hn=>(hi.nf (hs.nf hn).1).2.2.2.2.symm⟩
 ·have hn:u.nf:=hn
  obtain ⟨d0,d1,x⟩:=hu.ok hn
  obtain ⟨e1,e2,_⟩:=hs.nf hn
  obtain ⟨_,f1,f2,_⟩:=hi.nf e1
  have:=(hq.ok f1).1
  refine ⟨?_,?_,x⟩
  ·show 0<=wrapx .i64 (u.dp-1)
   rw [wrapx_of (by omega) (by omega)];omega
  ·show wrapx .i64 (u.dp-1)<=32
   rw [wrapx_of (by omega) (by omega)];omega
 ·have:=hs.i;have:=hi.i;have:=h.i
  show p.i<=u.i
  omega
 ·have hn:u.nf:=hn
  obtain ⟨d0,d1,x⟩:=hu.ok hn
  obtain ⟨e1,e2,e3,e4⟩:=hs.nf hn
  obtain ⟨_,f1,f2,f3,f4⟩:=hi.nf e1
  obtain ⟨g1,g2,g3,g4⟩:=h.nf f1
  refine ⟨g1,?_,?_,?_⟩
  ·show wrapx .i64 (u.dp-1)=p.dp
   rw [wrapx_of (by omega) (by omega)];omega
  ·show u.n-u.l.length=_
   rw [e3,f3,f4,g3];omega
  ·show p.l.length<=u.l.length
   rw [f4] at e4;omega
theorem Res.tr {a b:Int} {p q r:PS} {x:Int} (h:Stp a p q) (k:Res q r x) (hs:Stp b q r):Res p r x:=fun hr=>by
 obtain ⟨k1,k2⟩:=k hr
 have:=(h.nf (hs.nf hr).1).2.2.2
 exact ⟨k1,by omega⟩
theorem Post.tr {p q:PS} (h:Stp 0 p q) {v:AV×Heap×Vecs} (k:Post q v):Post p v:=by
 obtain ⟨x,r,rfl,h1,h2,h3⟩:=k
 exact ⟨x,r,rfl,h1,h.trans0 h2,Res.tr h h3 h2⟩
theorem not_j1 {d:Nat} (p q:PS) (x:Int) (b:Bool) (hq:Inv q) (hs:Stp 0 p q) (hr:Res p q x):Wp (F_rule_parser_not_j1 d x b q.s q.i q.dp q.n q.e q.fa q.l) (Post p):=by
 rw [F_rule_parser_not_j1_eq]
 refine Wp.if (fun _=>wdU (sp_fails _ _ (by decide) q hq.z) fun r h=>?_) fun _=>?_
 ·rw [F_rule_parser_not_j0_eq]
  exact Wp.mk (.bad h.1 (h.2.1.trans hs.s) (by rw [h.2.2.1];exact hs.i) h.2.2.2 _)
 ·rw [F_rule_parser_not_j0_eq]
  exact Wp.mk ⟨x,q,rfl,hq,hs,hr⟩
theorem In.i' {b:Bool} {p q r:PS} (h:Stp 0 p q) (k:In b q r):r.s=p.s/\p.i<=r.i:=⟨k.s.trans h.s,by rw [k.i];exact h.i⟩
theorem sp_not {d:Nat} (hN:SpN d) (hO:SpO d):SpN (d+1):=by
 intro p hp hd
 rw [F_rule_parser_not_eq]
 refine wdU (sp_blanks p hp) fun q hq=>Wp.if (fun hn=>?_) fun hn=>?_
 ·have hn:¬q.nf:=nf_false hn
  exact Wp.mk (.bad hq.1 hq.2.1.s hq.2.1.i hn _)
 have hn:q.nf:=nf_true hn
 have pn:=(hq.2.1.nf hn).1
 refine wdB (sp_is q hq.1 _ (by decide)) fun b q1 h1=>?_
 have s1:=hq.2.1.trans0 h1.2.1
 refine Wp.if (fun _=>?_) fun _=>?_
 ·refine wdB (sp_in q.i q1 h1.1) fun b1 q2 h2=>?_
  have m2:=(s1.m0 hp h2.2).resolve_right (fun h=>h pn)
  obtain ⟨es,ei⟩:=In.i' s1 h2.2
  refine Wp.if (fun hb=>Wp.mk (.bad h2.1 es ei (fun hn2=>?_) _)) fun _=>?_
  ·rw [(h2.2.nf hn2).1] at hb;cases hb
  refine wdU (sp_count q.i q2 h2.1) fun q3 h3=>?_
  have m3:=h3.2.1.m
  refine wdI (Post.out (hN q3 h3.1 (by omega))) fun y q4 h4=>?_
  obtain ⟨u1,u2,_⟩:=up h1.1 s1 h2.2 (h3.2.1.trans h4.2.1) h4.1
  refine wdI (Post.out (sp_last p _ hp u1 u2 (Int.ofNat 7) [] [] (Int.ofNat 0) y (Int.negSucc 0) fun h4n=>?_)) fun z q5 h5=>Wp.mk ⟨z,q5,rfl,h5⟩
  obtain ⟨y1,y2⟩:=h4.2.2 h4n
  refine ⟨7,[],[],_,_,_,rfl,z64,by decide,by decide,fun _=>⟨q4.l.length-1,?_,?_⟩,fun e=>by omega⟩
  ·rw [Int.ofNat_eq_natCast];omega
  ·show q4.l.length-1<q4.l.length
   omega
 ·refine wdB (sp_is q1 h1.1 _ (by decide)) fun b1 q2 h2=>?_
  have s2:=s1.trans0 h2.2.1
  refine Wp.if (fun _=>?_) fun _=>?_
  ·refine wdB (sp_in q.i q2 h2.1) fun b2 q3 h3=>?_
   have m2:=(s2.m0 hp h3.2).resolve_right (fun h=>h pn)
   obtain ⟨es,ei⟩:=In.i' s2 h3.2
   refine Wp.if (fun hb=>Wp.mk (.bad h3.1 es ei (fun hn2=>?_) _)) fun _=>?_
   ·rw [(h3.2.nf hn2).1] at hb;cases hb
   refine wdI (Post.out (hO q3 h3.1 (by omega))) fun x q4 h4=>?_
   obtain ⟨u1,u2,u3⟩:=up h2.1 s2 h3.2 h4.2.1 h4.1
   have hr:Res p { q4 with dp:=wrapx .i64 (q4.dp-1) } x:=fun hn4=>by
    obtain ⟨y1,y2⟩:=h4.2.2 hn4
    refine ⟨y1,?_⟩
    have e:=u3 hn4
    have:=((s2.nf (h3.2.nf (h4.2.1.nf hn4).1).2.1)).2.2.2
    rw [e] at this
    show p.l.length<q4.l.length
    omega
   refine Wp.if (fun _=>wdB (sp_is { q4 with dp:=wrapx .i64 (q4.dp-1) } u1 _ (by decide)) fun b3 q5 h5=>not_j1 p q5 x _ h5.1 (u2.trans0 h5.2.1) fun hn5=>?_) fun _=>not_j1 p { q4 with dp:=wrapx .i64 (q4.dp-1) } x _ u1 u2 hr
   rw [h5.2.2.2]
   exact hr (h5.2.1.nf hn5).1
  ·exact wdI (Post.out ((sp_leaf q2 h2.1).mono fun v hv=>Post.tr s2 hv)) fun x q3 h3=>Wp.mk ⟨x,q3,rfl,h3⟩
theorem zeros:SpN 0/\SpPN 0/\SpA 0/\SpPA 0/\SpO 0:=⟨fun p _ h=>by omega,fun p _ _ _ h=>by omega,fun p _ h=>by omega,fun p _ _ _ h=>by omega,fun p _ h=>by omega⟩
theorem parser_all (d:Nat):SpN d/\SpPN d/\SpA d/\SpPA d/\SpO d:=by
 induction d with
 | zero=>exact zeros
 | succ d ih=>exact ⟨sp_not ih.1 ih.2.2.2.2,pairs_not ih.1,sp_and ih.2.1,pairs_and ih.2.2.1,sp_or ih.2.2.2.1⟩
end Go.Proofs.YthiefohjkbdjeaaGreatDoor.scoreBounds
namespace Go.Proofs.YthiefohjkbdjeaaGreatDoor.scoreBounds
open Go Go.Sy
theorem TL.at {es:List AV} {L:Nat->Nat} {m j:Nat} (h:TL es L m) (hj:j<m):∃k s t n l r,ixN es (Int.ofNat j)=some (nd6 k s t n l r)/\(-9223372036854775808<=n/\n<=9223372036854775807)/\s.length+t.length+24<=L j/\L j<=topL ∧
 (k=7->∃a:Nat,l=Int.ofNat a/\a<j/\L a+3<=L j)/\(k=8\/k=9->∃a b:Nat,l=Int.ofNat a/\r=Int.ofNat b/\a<j/\b<j/\L a+L b+7<=L j):=h j hj
abbrev isT (m:Nat) (v:AV):Prop:=∃t,v=.str t/\t.length<=m
theorem told_1 {d:Nat} {es:List AV} {L:Nat->Nat} {m a:Nat} (h:TL es L m) (ha:a<m) (hd:Wp (F_rule_told d es (Int.ofNat a)) (isT (L a))) (least:Int):Wp (F_rule_told_1 (d+1) (Int.ofNat a) least es) (isT (L a+2)):=by
 rw [F_rule_told_1_eq]
 obtain ⟨k,s,t,n,l,r,he,_,_,ht,_⟩:=h.at ha
 refine wk_s hd fun u hu=>qk_A6issiii he ?_
 have:∃x,F_rule_tight k=some (.int .i64 x):=by
  have:Wp (F_rule_tight k) isE:=by
   rw [F_rule_tight_eq]
   repeat' first | refine Wp.if (fun _=>?_) (fun _=>?_) | exact Wp.mk ⟨_,rfl,trivial⟩
  obtain ⟨v,e,x,rfl,_⟩:=this
  exact ⟨x,e⟩
 obtain ⟨x,hx⟩:=this
 refine qk_i hx (Wp.ite (fun _=>Wp.gd ?_ (Wp.gd ?_ (Wp.mk ⟨_,rfl,?_⟩))) fun _=>Wp.mk ⟨_,rfl,by omega⟩)
 all_goals simp only [List.length_append,List.length_cons,List.length_nil]
 all_goals unfold topL at ht
 all_goals first | omega | (unfold maxStr;omega)
theorem told_ok {es:List AV} {L:Nat->Nat} {m:Nat} (h:TL es L m):∀(d j:Nat),2*j+1<=d->j<m->Wp (F_rule_told d es (Int.ofNat j)) (isT (L j)):=by
 intro d
 induction d using Nat.strongRecOn with
 | _ d ih=>
  intro j hd hj
  obtain ⟨k,s,t,n,l,r,he,hn,h1,ht,h7,h89⟩:=h.at hj
  obtain ⟨d,rfl⟩:∃d',d=d'+1:=⟨d-1,by omega⟩
  have part:∀a:Nat,a<j->∀least:Int,Wp (F_rule_told_1 d (Int.ofNat a) least es) (isT (L a+2)):=fun a ha least=>by
   obtain ⟨d2,rfl⟩:∃d',d=d'+1:=⟨d-1,by omega⟩
   exact told_1 h (by omega) (ih d2 (by omega) a (by omega) (by omega)) least
  unfold topL at ht
  have m0:maxStr=9223372036854775807:=rfl
  rw [F_rule_told_eq]
  refine qk_A6issiii he ?_
  refine Wp.if (fun _=>Wp.mk ⟨_,rfl,by show 3<=_;omega⟩) fun _=>?_
  refine Wp.if (fun _=>Wp.gd ?_ (Wp.gd ?_ (Wp.mk ⟨_,rfl,?_⟩))) fun _=>?_
  any_goals (simp only [List.length_append,List.length_cons,List.length_nil];omega)
  refine Wp.if (fun _=>Wp.gd ?_ (Wp.gd ?_ (Wp.mk ⟨_,rfl,?_⟩))) fun _=>?_
  any_goals (simp only [List.length_append,List.length_cons,List.length_nil];omega)
  obtain ⟨f,hf,hfl⟩:=ext_Format n hn.1 hn.2
  refine Wp.if (fun _=>Wp.gd ?_ (qk_s hf (Wp.gd ?_ (Wp.mk ⟨_,rfl,?_⟩)))) fun _=>?_
  any_goals (simp only [List.length_append,List.length_cons,List.length_nil];omega)
  refine Wp.if (fun _=>Wp.gd ?_ (qk_s hf (Wp.gd ?_ (Wp.mk ⟨_,rfl,?_⟩)))) fun _=>?_
  any_goals (simp only [List.length_append,List.length_cons,List.length_nil];omega)
  refine Wp.if (fun hk=>?_) fun _=>?_
  ·obtain ⟨a,rfl,ha,hL⟩:=h7 (by simpa using hk)
   refine wk_s (part a ha _) fun u hu=>Wp.gd ?_ (Wp.mk ⟨_,rfl,?_⟩)
   all_goals simp only [List.length_append,List.length_cons,List.length_nil]
   all_goals omega
  refine Wp.if (fun hk=>?_) fun _=>?_
  ·obtain ⟨a,b,rfl,rfl,ha,hb,hL⟩:=h89 (.inl (by simpa using hk))
   refine wk_s (part a ha _) fun u hu=>Wp.gd ?_ (wk_s (part b hb _) fun w hw=>Wp.gd ?_ (Wp.mk ⟨_,rfl,?_⟩))
   all_goals simp only [List.length_append,List.length_cons,List.length_nil]
   all_goals omega
  refine Wp.if (fun hk=>?_) fun _=>Wp.mk ⟨_,rfl,by omega⟩
  ·obtain ⟨a,b,rfl,rfl,ha,hb,hL⟩:=h89 (.inr (by simpa using hk))
   refine wk_s (part a ha _) fun u hu=>Wp.gd ?_ (wk_s (part b hb _) fun w hw=>Wp.gd ?_ (Wp.mk ⟨_,rfl,?_⟩))
   all_goals simp only [List.length_append,List.length_cons,List.length_nil]
   all_goals omega
theorem WF.TL {l:List AV} (h:WF l) (hl:l.length<=64):TL l fbL l.length:=by
 intro j hj
 obtain ⟨k,s,t,n,a,b,he,hn,hs,ht,h7,h89⟩:=h j _ (List.getElem?_eq_getElem hj)
 refine ⟨k,s,t,n,a,b,by rw [List.getElem?_eq_getElem hj,he],hn,by have:=fbL_ge j;omega,fbL_top (by omega),fun e=>?_,fun e=>?_⟩
 ·obtain ⟨a',rfl,ha⟩:=h7 e
  exact ⟨a',rfl,ha,fbL_one ha⟩
 ·obtain ⟨a',b',rfl,rfl,ha,hb⟩:=h89 e
  exact ⟨a',b',rfl,rfl,by omega,hb,fbL_two ha hb⟩
theorem told_last {l:List AV} {L:Nat->Nat} (h:TL l L l.length) (h0:0<l.length) (hl:l.length<=64):Wp (F_rule_told FUEL l (wrapx .i64 (Int.ofNat l.length-1))) fun v=>∃t,v=.str t/\True:=by
 rw [wrapx_pred h0 (by omega)]
 exact (told_ok h FUEL (l.length-1) (Nat.le_of_lt (FUEL_gt (by omega))) (by omega)).mono fun v ⟨t,e,_⟩=>⟨t,e,trivial⟩
def isP (v:AV):Prop:=(∃e f,v=.tup [.agg [.nilslice],.agg [.int .i64 e,.int .i64 f]]/\¬(e=0/\f=0))\/∃l,v=.tup [.agg [.lst 6 l],.agg [.int .i64 (Int.ofNat 0),.int .i64 (Int.ofNat 0)]]/\WF l/\l.length<=64
theorem parse_j1 (q:PS) (hq:Inv q):Wp (F_rule_Parse_j1 q.s q.i q.dp q.n q.e q.fa (Int.ofNat 0) (Int.ofNat 0) q.l) isP:=by
 rw [F_rule_Parse_j1_eq]
 refine Wp.if (fun hn=>?_) fun hn=>?_
 ·have hn:¬q.nf:=nf_false hn
  exact Wp.mk (.inl ⟨_,_,rfl,hn⟩)
 ·have hn:q.nf:=nf_true hn
  obtain ⟨_,_,h1,h2,h3⟩:=hq.ok hn
  exact Wp.mk (.inr ⟨_,rfl,h3,by omega⟩)
theorem parse_j0 (q:PS) (hq:Inv q) (h0:q.nf->0<q.l.length):Wp (F_rule_Parse_j0 q.s q.i q.dp q.n q.e q.fa (Int.ofNat 0) (Int.ofNat 0) q.l) isP:=by
 rw [F_rule_Parse_j0_eq]
 refine Wp.if (fun hn=>?_) fun _=>parse_j1 q hq
 have hn:q.nf:=nf_iff.1 hn
 obtain ⟨_,_,h1,h2,h3⟩:=hq.ok hn
 have hl:q.l.length<=64:=by omega
 exact wk_s (told_last (h3.TL hl) (h0 hn) hl) fun t _=>Wp.ite (fun _=>wdU (sp_fails _ _ (by decide) q hq.z) fun r hr=>parse_j1 r hr.1) fun _=>parse_j1 q hq
theorem rule_Parse (s:List Nat):Wp (F_rule_Parse s) isP:=by
 rw [F_rule_Parse_eq]
 refine Wp.ite (fun _=>Wp.mk (.inl ⟨_,_,rfl,fun h=>(by cases h.1)⟩)) fun hs=>?_
 rw [Int.ofNat_eq_natCast] at hs
 have hp:Inv ⟨s,Int.ofNat 0,Int.ofNat 0,Int.ofNat 0,Int.ofNat 0,Int.ofNat 0,[]⟩:=⟨Int.le_refl _,Int.natCast_nonneg _,by show s.length<=1024;omega,fun _=>⟨Int.le_refl _,(by decide:Int.ofNat 0<=32),Int.le_refl _,(by decide:Int.ofNat 0<=64),fun j v h=>by cases h⟩⟩
 have hm:5*(PS.mk s (Int.ofNat 0) (Int.ofNat 0) (Int.ofNat 0) (Int.ofNat 0) (Int.ofNat 0) []).m+5<=FUEL:=by
  rw [m_nf ⟨rfl,rfl⟩]
  have:FUEL=1180591620717411303424:=FUEL_eq
  rw [this];exact (by decide:5*(33-Int.ofNat 0).toNat+5<=1180591620717411303424)
 refine wdI (Post.out ((parser_all FUEL).2.2.2.2 _ hp hm)) fun x q hq=>wdU (sp_blanks q hq.1) fun r hr=>?_
 have h0:r.nf->0<r.l.length:=fun hn=>by
  have:=(hq.2.2 (hr.2.1.nf hn).1).2
  rw [hr.2.2]
  exact this
 exact Wp.ite (fun _=>wdU (sp_fails _ _ (by decide) r hr.1.z) fun u hu=>parse_j0 u hu.1 fun hn=>absurd hn hu.2.2.2) fun _=>parse_j0 r hr.1 h0
end Go.Proofs.YthiefohjkbdjeaaGreatDoor.scoreBounds
namespace Go.Proofs.YthiefohjkbdjeaaGreatDoor.scoreBounds
open Go Go.Sy
def UsedIs (us:List AV) (c:Nat->Int) (m:Nat):Prop:=us.length=m/\∀j,j<m->us[j]? = some (.int .i64 (c j))
theorem ldE_int {us:List AV} {j:Nat} {x:Int} (h:us[j]? = some (.int .i64 x)):ldE us (Int.toNat (Int.ofNat j)) 0 1 false=some (.int .i64 x):=by
 show (match us[j]? with | some e=>Go.Sy.part e.cells 0 1 false | none=>none)=_
 rw [h]
 rfl
theorem UsedIs.set {us:List AV} {c:Nat->Int} {m a:Nat} (h:UsedIs us c m) (ha:a<m) (x:Int):UsedIs (us.set a (.int .i64 x)) (upd c a x) m:=by
 refine ⟨by rw [List.length_set];exact h.1,fun j hj=>?_⟩
 by_cases e:j=a
 ·subst e
  rw [upd_at,List.getElem?_set_self (by rw [h.1];exact hj)]
 ·rw [upd_ne e,List.getElem?_set_ne (fun e'=>e e'.symm)]
  exact h.2 j hj
def bigK:Nat:=4000100
def Bad (c:Nat->Int) (m:Nat):Prop:=∃j,j<m/\2<=c j
structure Sh (es:List AV) (L:Nat->Nat) (c:Nat->Int) (i T:Nat):Prop where
 tl:TL es L i
 le:∀j,j<i->L j<=bigK*i
 sum:rs L c i+T<=bigK*i
 old:∀j,j<i->c j=0\/c j=1
 new:∀j,i<=j->c j=0
def Ok (es:List AV) (c:Nat->Int) (m i T:Nat) (ks:List Nat):Prop:=Bad c m\/∃L,Sh es L c i T/\(ks.map L).foldr (·+·) 0<=T
theorem Sh.take {es:List AV} {L:Nat->Nat} {c:Nat->Int} {i T a:Nat} (h:Sh es L c i T) (ha:a<i) (h0:c a=0):Sh es L (upd c a (c a+1)) i (T+L a):=by
 refine ⟨h.tl,h.le,?_,fun j hj=>?_,fun j hj=>?_⟩
 ·have:=rs_take (L:=L) h0 (show c a+1≠0 by omega) ha
  have:=h.sum
  omega
 ·by_cases e:j=a
  ·subst e;rw [upd_at];omega
  ·rw [upd_ne e];exact h.old j hj
 ·rw [upd_ne (by omega)];exact h.new j hj
theorem Ok.take {es:List AV} {c:Nat->Int} {m i T a:Nat} {ks:List Nat} (h:Ok es c m i T ks) (ha:a<i) (him:i<=m) (hc:∀j,0<=c j):∃T',Ok es (upd c a (c a+1)) m i T' (a::ks):=by
 rcases h with ⟨j,hj,h2⟩ | ⟨L,h,hk⟩
 ·refine ⟨0,.inl ⟨j,hj,?_⟩⟩
  by_cases e:j=a
  ·subst e;rw [upd_at];omega
  ·rw [upd_ne e];exact h2
 ·rcases h.old a ha with h0 | h1
  ·refine ⟨T+L a,.inr ⟨L,h.take ha h0,?_⟩⟩
   show L a+(ks.map L).foldr (·+·) 0<=_
   omega
  ·exact ⟨0,.inl ⟨a,by omega,by rw [upd_at];omega⟩⟩
theorem Ok.next {es:List AV} {c:Nat->Int} {m i T:Nat} {ks:List Nat} (h:Ok es c m i T ks) (him:i<m) (hi:i<64) {k:Int} {s t:List Nat} {n l r:Int} (he:es[i]? = some (nd6 k s t n l r)) (hn:-9223372036854775808<=n/\n<=9223372036854775807) (hs:s.length+t.length+24<=bigK)
  (h7:k=7->∃a:Nat,l=Int.ofNat a/\a<i/\ks=[a]) (h89:k=8\/k=9->∃a b:Nat,l=Int.ofNat a/\r=Int.ofNat b/\a<i/\b<i/\ks=[b,a]):Ok es c m (i+1) 0 []:=by
 rcases h with hb | ⟨L,h,hk⟩
 ·exact .inl hb
 ·refine .inr ⟨upd L i (T+bigK),⟨fun j hj=>?_,fun j hj=>?_,?_,fun j hj=>?_,fun j hj=>h.new j (by omega)⟩,Nat.le_refl _⟩
  ·by_cases e:j=i
   ·subst e
    have hT:T<=bigK*j:=by have:=h.sum;omega
    refine ⟨k,s,t,n,l,r,he,hn,by rw [upd_at];omega,by rw [upd_at];unfold bigK topL at *;omega,fun e=>?_,fun e=>?_⟩
    ·obtain ⟨a,rfl,ha,rfl⟩:=h7 e
     have hk:L a+0<=T:=hk
     exact ⟨a,rfl,ha,by rw [upd_at,upd_ne (by omega)];unfold bigK;omega⟩
    ·obtain ⟨a,b,rfl,rfl,ha,hb,rfl⟩:=h89 e
     have hk:L b+(L a+0)<=T:=hk
     exact ⟨a,b,rfl,rfl,ha,hb,by rw [upd_at,upd_ne (by omega),upd_ne (by omega)];unfold bigK;omega⟩
   ·obtain ⟨k',s',t',n',l',r',q1,q2,q3,q4,q5,q6⟩:=h.tl j (by omega)
    refine ⟨k',s',t',n',l',r',q1,q2,by rw [upd_ne e];exact q3,by rw [upd_ne e];exact q4,fun e'=>?_,fun e'=>?_⟩
    ·obtain ⟨a,rfl,ha,hL⟩:=q5 e'
     exact ⟨a,rfl,ha,by rw [upd_ne e,upd_ne (by omega)];exact hL⟩
    ·obtain ⟨a,b,rfl,rfl,ha,hb,hL⟩:=q6 e'
     exact ⟨a,b,rfl,rfl,ha,hb,by rw [upd_ne e,upd_ne (by omega),upd_ne (by omega)];exact hL⟩
  ·by_cases e:j=i
   ·subst e;rw [upd_at];have:=h.sum;rw [Nat.mul_add];omega
   ·rw [upd_ne e];have:=h.le j (by omega);rw [Nat.mul_add];omega
  ·rw [rs,rs_congr (L':=L) (c':=c) (fun j hj=>upd_ne (by omega)) fun _ _=>rfl,upd_at,if_pos (h.new i (Nat.le_refl _)),Nat.mul_add]
   have:=h.sum
   omega
  ·by_cases e:j=i
   ·subst e;exact .inl (h.new j (Nat.le_refl _))
   ·exact h.old j (by omega)
abbrev isSh (es:List AV) (v:AV):Prop:=∃b,v=.bool b/\(b=true->0<es.length/\es.length<=64/\∃L,TL es L es.length)
theorem sh_false {es:List AV}:isSh es (.bool false):=⟨false,rfl,fun h=>by cases h⟩
theorem shaped_l34 (es us:List AV) (c:Nat->Int) (hu:UsedIs us c es.length) (h0:0<es.length) (h64:es.length<=64) (hok:Ok es c es.length es.length 0 []):∀(n i:Nat),i<=es.length->es.length-i<n->(∀j,j<i->j<es.length-1->c j=1)->Wp (F_rule_shaped_l34 n es (Int.ofNat us.length) (Int.ofNat i) us) (isSh es):=by
 intro n
 induction n with
 | zero=>intro i _ h;omega
 | succ n ih=>
  intro i hi hn hj
  have hul:=hu.1
  rw [F_rule_shaped_l34_eq,hu.1]
  have hlast:wrapx .i64 (Int.ofNat es.length-1)=Int.ofNat (es.length-1):=wrapx_pred h0 (by omega)
  refine Wp.lt (fun hlt=>?_) fun hge=>?_
  ·refine gd_at hlt (qk_i (ldE_int (hu.2 i hlt)) ?_)
   rw [hlast,wrapx_succ (by omega),←hu.1]
   refine Wp.lt (fun hl=>Wp.if (fun _=>Wp.mk sh_false) fun h1=>ih (i+1) hlt (by omega) fun j h2 h3=>?_) fun hl=>ih (i+1) hlt (by omega) fun j h2 h3=>?_
   ·by_cases e:j=i
    ·subst e;simpa using h1
    ·exact hj j (by omega) h3
   ·exact hj j (by omega) h3
  ·rw [hlast]
   refine gd_at (by omega) (qk_i (ldE_int (hu.2 _ (by omega))) (Wp.mk ⟨_,rfl,fun hb=>⟨h0,h64,?_⟩⟩))
   have hb:c (es.length-1)=0:=by simpa using hb
   rcases hok with ⟨j,hjl,h2⟩ | ⟨L,h,_⟩
   ·by_cases e:j<es.length-1
    ·have:=hj j (by omega) e;omega
    ·have:j=es.length-1:=by omega
     subst this;omega
   ·exact ⟨L,h.tl⟩
end Go.Proofs.YthiefohjkbdjeaaGreatDoor.scoreBounds
namespace Go.Proofs.YthiefohjkbdjeaaGreatDoor.scoreBounds
open Go Go.Sy
theorem shaped_part {es us parts:List AV} {n27 n i x:Nat} {c:Nat->Int} {k:Int} {P:AV->Prop} (hu:UsedIs us c es.length) (hc:∀j,0<=c j/\c j<=1000) (hx:parts[x]? = some (.int .i64 k)) (hx2:x<5) (hi:i<=es.length) (t23 t24:Int) (t22:List AV) (hf:P (.bool false))
  (h:∀a:Nat,k=Int.ofNat a->a<i->Wp (F_rule_shaped_l25 n27 n es (Int.ofNat i) t22 t23 t24 (Int.ofNat parts.length) (Int.ofNat (x+1)) (us.set a (.int .i64 (c a+1))) parts) P):Wp (F_rule_shaped_l25 n27 (n+1) es (Int.ofNat i) t22 t23 t24 (Int.ofNat parts.length) (Int.ofNat x) us parts) P:=by
 have hlt:x<parts.length:=(List.getElem?_eq_some_iff.1 hx).1
 rw [F_rule_shaped_l25_eq]
 refine Wp.lt (fun _=>gd_at hlt (qk_i (ldE_int hx) (Wp.ite (fun _=>Wp.mk hf) fun h0=>Wp.ite (fun _=>Wp.mk hf) fun h1=>?_))) fun hge=>absurd hlt (by omega)
 obtain ⟨a,rfl⟩:=Int.eq_ofNat_of_zero_le (show 0<=k by omega)
 have ha:a<i:=by rw [Int.ofNat_eq_natCast] at h1;omega
 have hal:a<us.length:=by rw [hu.1];omega
 have hca:=hc a
 refine gd_at hal (qk_i (ldE_int (hu.2 a (by omega))) (gd_at hal ?_))
 rw [wrapx_succ (by omega),wrapx_of (by omega) (by omega)]
 exact h a rfl ha
theorem shaped_end {es us parts:List AV} {n27 n i x:Nat} {P:AV->Prop} (hx:x=parts.length) (hi:i<1000) (t22:List AV) (t23:Int) (h:Wp (F_rule_shaped_l27 n27 es t22 t23 (Int.ofNat (i+1)) us) P):Wp (F_rule_shaped_l25 n27 (n+1) es (Int.ofNat i) t22 t23 (Int.ofNat i) (Int.ofNat parts.length) (Int.ofNat x) us parts) P:=by
 rw [F_rule_shaped_l25_eq]
 refine Wp.lt (fun h=>absurd h (by omega)) fun _=>?_
 rw [wrapx_succ (by omega)]
 exact h
theorem fuel3:FUEL=1180591620717411303421+1+1+1:=FUEL_eq
theorem upd_le {c:Nat->Int} {a n:Nat} (hc:∀j,0<=c j/\c j<=(n:Int)) (j:Nat):0<=upd c a (c a+1) j/\upd c a (c a+1) j<=((n+1:Nat):Int):=by
 by_cases e:j=a
 ·subst e;rw [upd_at];have:=hc j;omega
 ·rw [upd_ne e];have:=hc j;omega
theorem rule_shaped (es:List AV) (h:Nds es):Wp (F_rule_shaped es) (isSh es):=by
 rw [F_rule_shaped_eq]
 refine Wp.ite (fun _=>Wp.mk sh_false) fun h0=>Wp.ite (fun _=>Wp.mk sh_false) fun h64=>?_
 rw [Int.ofNat_eq_natCast] at h0 h64
 have h0:0<es.length:=by omega
 have h64:es.length<=64:=by omega
 have loop:∀(n i:Nat) (us:List AV) (c:Nat->Int),i<=es.length->es.length-i<n->UsedIs us c es.length->(∀j,0<=c j/\c j<=((2*i:Nat):Int))->Ok es c es.length i 0 []->Wp (F_rule_shaped_l27 n es es (Int.ofNat es.length) (Int.ofNat i) us) (isSh es):=by
  intro n
  induction n with
  | zero=>intro i us c _ h;omega
  | succ n ih=>
   intro i us c hi hn hu hc hok
   have hc1:∀j,0<=c j/\c j<=1000:=fun j=>by have:=hc j;omega
   have hc2:∀j,0<=c j/\c j<=((2*(i+1):Nat):Int):=fun j=>by have:=hc j;omega
   rw [F_rule_shaped_l27_eq]
   refine Wp.lt (fun hlt=>?_) fun hge=>?_
   ·obtain ⟨k,s,t,nn,l,r,he,n0,n1,hs,ht⟩:=h.1 _ (List.getElem_mem hlt)
    have he':es[i]? = some (nd6 k s t nn l r):=by rw [List.getElem?_eq_getElem hlt,he]
    have hst:s.length+t.length+24<=bigK:=by unfold bigK;omega
    refine qk_A6issiii ((ixN_at hlt).trans (congrArg some he)) ?_
    have next0:∀parts,parts=[]->¬k=7->¬(k=8\/k=9)->Wp (F_rule_shaped_j1 n es (Int.ofNat i) es (Int.ofNat es.length) (Int.ofNat i) us parts) (isSh es):=fun parts hp h7 h8=>by
     subst hp
     rw [F_rule_shaped_j1_eq,fuel3]
     exact shaped_end rfl (by omega) _ _ (ih (i+1) us c hlt (by omega) hu hc2 (hok.next hlt (by omega) he' ⟨n0,n1⟩ hst (fun e=>absurd e h7) fun e=>absurd e h8))
    refine Wp.if (fun hk=>?_) fun hk7=>?_
    ·have hk:k=7:=by simpa using hk
     refine Wp.if (fun _=>Wp.mk sh_false) fun _=>?_
     rw [F_rule_shaped_j1_eq,fuel3]
     refine shaped_part (parts:=[.int .i64 l]) (x:=0) hu hc1 rfl (by omega) hi _ _ _ sh_false fun a ha hai=>?_
     obtain ⟨T,ok1⟩:=hok.take hai hi fun j=>(hc j).1
     refine shaped_end rfl (by omega) _ _ (ih (i+1) _ (upd c a (c a+1)) hlt (by omega) (hu.set (by omega) _) (fun j=>?_) (ok1.next hlt (by omega) he' ⟨n0,n1⟩ hst (fun _=>⟨a,ha,hai,rfl⟩) fun e=>by omega))
     have:=upd_le (a:=a) hc j
     omega
    ·have hk7:¬k=7:=by simpa using hk7
     have two:k=8\/k=9->Wp (F_rule_shaped_j1 n es (Int.ofNat i) es (Int.ofNat es.length) (Int.ofNat i) us [.int .i64 l,.int .i64 r]) (isSh es):=fun hk=>by
      rw [F_rule_shaped_j1_eq,fuel3]
      refine shaped_part (parts:=[.int .i64 l,.int .i64 r]) (x:=0) hu hc1 rfl (by omega) hi _ _ _ sh_false fun a ha hai=>?_
      obtain ⟨T,ok1⟩:=hok.take hai hi fun j=>(hc j).1
      have hc3:=fun j=>upd_le (a:=a) hc j
      refine shaped_part (parts:=[.int .i64 l,.int .i64 r]) (x:=1) (hu.set (by omega) _) (fun j=>by have:=hc3 j;omega) rfl (by omega) hi _ _ _ sh_false fun b hb hbi=>?_
      obtain ⟨T2,ok2⟩:=ok1.take hbi hi fun j=>(hc3 j).1
      refine shaped_end rfl (by omega) _ _ (ih (i+1) _ (upd (upd c a (c a+1)) b (upd c a (c a+1) b+1)) hlt (by omega) ((hu.set (by omega) _).set (by omega) _) (fun j=>?_) (ok2.next hlt (by omega) he' ⟨n0,n1⟩ hst (fun e=>by omega) fun _=>⟨a,b,ha,hb,hai,hbi,rfl⟩))
      have:=upd_le (a:=b) hc3 j
      omega
     have j2:∀b:Bool,(b=true->k=8\/k=9)->(b=false->¬(k=8\/k=9))->Wp (F_rule_shaped_j2 n es (Int.ofNat i) es (Int.ofNat es.length) (Int.ofNat i) b k s t nn l r us []) (isSh es):=fun b b1 b0=>by
      rw [F_rule_shaped_j2_eq]
      exact Wp.if (fun hb=>two (b1 hb)) fun hb=>Wp.if (fun _=>Wp.mk sh_false) fun _=>Wp.if (fun _=>Wp.mk sh_false) fun _=>next0 [] rfl hk7 (b0 hb)
     refine Wp.if (fun hk=>j2 true (fun _=>.inl (by simpa using hk)) fun e=>by cases e) fun hk8=>j2 _ (fun e=>.inr (by simpa using e)) fun e=>?_
     have hk8:¬k=8:=by simpa using hk8
     have hk9:¬k=9:=by simpa using e
     omega
   ·have:i=es.length:=by omega
    subst this
    exact shaped_l34 es us c hu h0 h64 hok _ 0 (Nat.zero_le _) (FUEL_gt (by omega)) fun j hj=>by omega
 rw [F_rule_shaped_j0_eq]
 have e1:Int.toNat (Int.ofNat es.length)=es.length:=rfl
 refine Wp.gd ⟨Int.natCast_nonneg _,Int.le_refl _,?_,?_⟩ (loop _ 0 _ (fun _=>0) (Nat.zero_le _) (FUEL_gt (by omega)) ⟨?_,fun j hj=>?_⟩ (fun j=>by omega) (.inr ⟨fun _=>0,⟨fun j hj=>by omega,fun j hj=>by omega,Nat.le_refl _,fun j hj=>by omega,fun _ _=>rfl⟩,Nat.le_refl _⟩))
 ·rw [e1];unfold roomBits;omega
 ·rw [e1];unfold roomBits;omega
 ·rw [e1,List.length_replicate]
 ·rw [e1]
  exact List.getElem?_eq_some_iff.2 ⟨by rw [List.length_replicate];exact hj,by rw [List.getElem_replicate]⟩
theorem isNds {l:List AV} (h:WF l) (hl:l.length<=64):Nds l:=⟨fun e he=>by
 obtain ⟨j,hj⟩:=List.getElem?_of_mem he
 obtain ⟨k,s,t,n,a,b,rfl,hn,hs,ht,_⟩:=h j e hj
 exact ⟨k,s,t,n,a,b,rfl,hn.1,hn.2,by omega,by omega⟩,by omega⟩
theorem rule_Check2 (es:List AV) (h:Nds es):Wp (F_rule_Check es) fun v=>∃n,v=.int .i64 n/\(n=0->0<es.length/\es.length<=64/\∃L,TL es L es.length):=by
 have hbad:∀n:Int,n≠0->∃m,(AV.int .i64 n)=.int .i64 m/\(m=0->0<es.length/\es.length<=64/\∃L,TL es L es.length):=fun n hn=>⟨n,rfl,fun e=>absurd e hn⟩
 rw [F_rule_Check_eq]
 refine wk_b (rule_shaped es h) fun b hb=>Wp.if (fun _=>Wp.mk (hbad _ (by decide))) fun hnb=>?_
 have hnb:b=true:=by simpa using hnb
 obtain ⟨h0,h64,L,hL⟩:=hb hnb
 refine wk_s (told_last hL h0 h64) fun t _=>?_
 obtain ⟨v,e,hv⟩:=rule_Parse t
 rw [e]
 rcases hv with ⟨x,f,rfl,hn⟩ | ⟨l,rfl,hw,hl⟩
 ·show Wp (br (!(x==0&&f==0)) _ _) _
  exact Wp.if (fun _=>Wp.mk (hbad _ (by decide))) fun hf=>absurd (nf_true (p:=⟨[],0,0,0,x,f,[]⟩) hf) hn
 ·rw [ek_T2A1l6A2ii]
  exact Wp.if (fun _=>Wp.mk (hbad _ (by decide))) fun _=>wk_b (slices_Equal l es (isNds hw hl) h) fun b _=>Wp.if (fun _=>Wp.mk (hbad _ (by decide))) fun _=>Wp.mk ⟨_,rfl,fun _=>⟨h0,h64,L,hL⟩⟩
theorem rule_Check (es:List AV) (h:Nds es):Wp (F_rule_Check es) isE:=(rule_Check2 es h).mono fun v ⟨n,e,_⟩=>⟨n,e,trivial⟩
theorem index_attr (es:List AV) (h:Ats es) (k:Int) (s t:List Nat) (n l r:Int):Wp (F_slices_IndexFunc_api_Attr_api_Attr_rule_holds_1 es k s t n l r) fun v=>∃x,v=.int .i64 x/\(0<=x->∃i:Nat,x=Int.ofNat i/\i<es.length):=by
 have loop:∀(m i:Nat),i<=es.length->es.length-i<m->Wp (F_slices_IndexFunc_api_Attr_api_Attr_rule_holds_1_l7 m es k s t n l r (Int.ofNat es.length) (Int.ofNat i)) fun v=>∃x,v=.int .i64 x/\(0<=x->∃i:Nat,x=Int.ofNat i/\i<es.length):=by
  intro m
  induction m with
  | zero=>intro i _ h;omega
  | succ m ih=>
   intro i hi hm
   rw [F_slices_IndexFunc_api_Attr_api_Attr_rule_holds_1_l7_eq]
   refine Wp.lt (fun hlt=>h.at hlt fun a b _=>qk_b (F_rule_holds_1_eq ..) (Wp.if (fun _=>Wp.mk ⟨_,rfl,fun _=>⟨i,rfl,hlt⟩⟩) fun _=>?_)) fun _=>Wp.mk ⟨_,rfl,fun h=>absurd h (by decide)⟩
   rw [wrapx_succ (by have:=h.2;omega)]
   exact ih (i+1) hlt (by omega)
 rw [F_slices_IndexFunc_api_Attr_api_Attr_rule_holds_1_eq]
 exact loop _ 0 (Nat.zero_le _) (FUEL_gt (by have:=h.2;omega))
theorem holds_ok {es:List AV} {L:Nat->Nat} {m:Nat} (h:TL es L m) (ats:List AV) (ha:Ats ats):∀(d j:Nat),j<d->j<m->Wp (F_rule_holds d es (Int.ofNat j) ats) isB:=by
 intro d
 induction d with
 | zero=>intro j h;omega
 | succ d ih=>
  intro j hd hj
  obtain ⟨k,s,t,n,l,r,he,hn,h1,ht,h7,h89⟩:=h.at hj
  rw [F_rule_holds_eq]
  refine qk_A6issiii he (wk_i (index_attr ats ha k s t n l r) fun x hx=>?_)
  have num:∀{f:Int->Option AV} (v:List Nat),v.length<=12->(∀y,Wp (f y) isB)->Wp (dK true [K.i IntKind.i64] (F_rule_number v) f) isB:=fun v hv hf=>wk_i (rule_number v (by omega)) fun y _=>hf y
  refine Wp.if (fun _=>Wp.mk ⟨_,rfl,trivial⟩) fun _=>?_
  refine Wp.if (fun _=>Wp.ite (fun h0=>?_) fun _=>Wp.mk ⟨_,rfl,trivial⟩) fun _=>?_
  ·obtain ⟨i,rfl,hi⟩:=hx h0
   exact ha.at hi fun _ _ _=>Wp.mk ⟨_,rfl,trivial⟩
  refine Wp.if (fun _=>Wp.ite (fun h0=>Wp.mk ⟨_,rfl,trivial⟩) fun h0=>?_) fun _=>?_
  ·obtain ⟨i,rfl,hi⟩:=hx (by omega)
   exact ha.at hi fun _ _ _=>Wp.mk ⟨_,rfl,trivial⟩
  refine Wp.if (fun _=>Wp.ite (fun h0=>?_) fun _=>Wp.mk ⟨_,rfl,trivial⟩) fun _=>?_
  ·obtain ⟨i,rfl,hi⟩:=hx h0
   refine ha.at hi fun a b e=>?_
   obtain ⟨q,hq,hq2⟩:=rule_isDigits b
   refine qk_b hq (Wp.if (fun hb=>ha.at hi fun a' b' e'=>?_) fun _=>Wp.mk ⟨_,rfl,trivial⟩)
   rw [e] at e'
   cases e'
   exact num b (hq2 hb).1 fun y=>Wp.mk ⟨_,rfl,trivial⟩
  refine Wp.if (fun _=>Wp.ite (fun h0=>?_) fun _=>Wp.mk ⟨_,rfl,trivial⟩) fun _=>?_
  ·obtain ⟨i,rfl,hi⟩:=hx h0
   refine ha.at hi fun a b e=>?_
   obtain ⟨q,hq,hq2⟩:=rule_isDigits b
   refine qk_b hq (Wp.if (fun hb=>ha.at hi fun a' b' e'=>?_) fun _=>Wp.mk ⟨_,rfl,trivial⟩)
   rw [e] at e'
   cases e'
   exact num b (hq2 hb).1 fun y=>Wp.mk ⟨_,rfl,trivial⟩
  refine Wp.if (fun hk=>?_) fun _=>?_
  ·obtain ⟨a,rfl,ha',_⟩:=h7 (by simpa using hk)
   exact wk_b (ih a (by omega) (by omega)) fun b _=>Wp.mk ⟨_,rfl,trivial⟩
  refine Wp.if (fun hk=>?_) fun _=>?_
  ·obtain ⟨a,b,rfl,rfl,ha',hb',_⟩:=h89 (.inl (by simpa using hk))
   exact wk_b (ih a (by omega) (by omega)) fun b _=>Wp.if (fun _=>wk_b (ih _ (by omega) (by omega)) fun b _=>Wp.mk ⟨_,rfl,trivial⟩) fun _=>Wp.mk ⟨_,rfl,trivial⟩
  refine Wp.if (fun hk=>?_) fun _=>Wp.mk ⟨_,rfl,trivial⟩
  ·obtain ⟨a,b,rfl,rfl,ha',hb',_⟩:=h89 (.inr (by simpa using hk))
   exact wk_b (ih a (by omega) (by omega)) fun b _=>Wp.if (fun _=>Wp.mk ⟨_,rfl,trivial⟩) fun _=>wk_b (ih _ (by omega) (by omega)) fun b _=>Wp.mk ⟨_,rfl,trivial⟩
theorem rule_Holds (es:List AV) (h:Nds es) (ats:List AV) (ha:Ats ats):Wp (F_rule_Holds es ats) fun v=>∃b n,v=.tup [.bool b,.int .i64 n]/\True:=by
 rw [F_rule_Holds_eq]
 refine wk_i (rule_Check2 es h) fun n hn=>Wp.if (fun _=>Wp.mk ⟨_,_,rfl,trivial⟩) fun h0=>?_
 obtain ⟨l0,l64,L,hL⟩:=hn (by simpa using h0)
 refine wk_i (rule_Attrs ats ha) fun n1 _=>Wp.if (fun _=>Wp.mk ⟨_,_,rfl,trivial⟩) fun _=>?_
 rw [wrapx_pred l0 (by omega)]
 exact wk_b (holds_ok hL ats ha FUEL (es.length-1) (FUEL_gt (by omega)) (by omega)) fun b _=>Wp.mk ⟨_,_,rfl,trivial⟩
end Go.Proofs.YthiefohjkbdjeaaGreatDoor.scoreBounds
namespace Go.Proofs.YthiefohjkbdjeaaGreatDoor.scoreBounds
open Go Go.Sy
abbrev isRoom (p:List Nat) (a b c d:Int) (v:AV):Prop:=∃x y z u g,v=.tup [am x y z u,.bool g]/\(p=[]->within a b c d x y z u)
theorem fit_room (nm:List Nat) (ats:List AV) (c1 c2 c3 c4:Int) (up:Bool) (us:List AV) (h:Us us) (p:List Nat):Wp (F_fit_room nm ats c1 c2 c3 c4 up us p) (isRoom p c1 c2 c3 c4):=by
 rw [F_fit_room_eq]
 have j0:∀a b c d:Int,(p=[]->a=c1/\b=c2/\c=c3/\d=c4)->Wp (F_fit_room_j0 p nm ats c1 c2 c3 c4 up us a b c d (Int.ofNat 0) (Int.ofNat 0) (Int.ofNat 0) (Int.ofNat 0)) (isRoom p c1 c2 c3 c4):=fun a b c d hp=>by
  rw [F_fit_room_j0_eq]
  refine wk_l9 (fit_in us h p) fun l hl=>wk_T2A4iiiib (fit_take l (h.sub hl.1 hl.2) a b c d) fun x y z u g hw=>Wp.mk ⟨_,_,_,_,_,rfl,fun e=>?_⟩
  obtain ⟨rfl,rfl,rfl,rfl⟩:=hp e
  exact hw
 refine Wp.if (fun hp=>?_) fun hp=>j0 _ _ _ _ fun _=>⟨rfl,rfl,rfl,rfl⟩
 have hne:p≠[]:=fun e=>by subst e;cases hp
 refine wk_T2A9siiiiiisbb (fit_envelope nm ats c1 c2 c3 c4 up us h p) fun s a b c d e f t g g' _=>Wp.if (fun _=>Wp.mk ⟨_,_,_,_,_,rfl,fun e=>absurd e hne⟩) fun _=>j0 _ _ _ _ fun e=>absurd e hne
def MapTB (m:List (AV×AV)):Prop:=∀p∈m,∃s i b,p=(.agg [.str s,.int .i64 i],.bool b)
theorem eqk_task (s s':List Nat) (i i':Int):∃b,eqk true [Kd.s,Kd.i] (.agg [.str s,.int .i64 i]) (.agg [.str s',.int .i64 i'])=some b:=by
 show ∃b,(match some (seqb s s') with | some true=>(match (some (i==i'):Option Bool) with | some true=>some true | some false=>some false | none=>none) | some false=>some false | none=>none)=some b
 cases seqb s s' with
 | true=>cases (i==i') with
  | true=>exact ⟨true,rfl⟩
  | false=>exact ⟨false,rfl⟩
 | false=>exact ⟨false,rfl⟩
theorem mfind_task {m:List (AV×AV)} (h:MapTB m) (s:List Nat) (i:Int):mfind true [Kd.s,Kd.i] (.agg [.str s,.int .i64 i]) m=some none\/∃b,mfind true [Kd.s,Kd.i] (.agg [.str s,.int .i64 i]) m=some (some (.bool b)):=by
 induction m with
 | nil=>exact .inl rfl
 | cons p r ih=>
  obtain ⟨s',i',b,rfl⟩:=h p (.head _)
  obtain ⟨q,hq⟩:=eqk_task s s' i i'
  simp only [mfind,hq]
  cases q with
  | true=>exact .inr ⟨b,rfl⟩
  | false=>exact ih fun p hp=>h p (.tail _ hp)
theorem mput_task {m:List (AV×AV)} (h:MapTB m) (s:List Nat) (i:Int) (b:Bool):∃m',mput true [Kd.s,Kd.i] (.agg [.str s,.int .i64 i]) (.bool b) m=some m'/\MapTB m':=by
 induction m with
 | nil=>exact ⟨_,rfl,fun p hp=>by simp only [List.mem_singleton] at hp;exact ⟨s,i,b,hp⟩⟩
 | cons p r ih=>
  have hp:=h p (.head _)
  obtain ⟨s',i',b',rfl⟩:=hp
  obtain ⟨q,hq⟩:=eqk_task s s' i i'
  simp only [mput,hq]
  cases q with
  | true=>exact ⟨_,rfl,fun p hp=>by
    rcases List.mem_cons.1 hp with rfl | hp
    ·exact ⟨s,i,b,rfl⟩
    ·exact h p (.tail _ hp)⟩
  | false=>
   obtain ⟨r',hr,hr'⟩:=ih fun p hp=>h p (.tail _ hp)
   refine ⟨_,by rw [hr],fun p hp=>?_⟩
   rcases List.mem_cons.1 hp with rfl | hp
   ·exact ⟨s',i',b',rfl⟩
   ·exact hr' p hp
theorem fit_CheckView (nm:List Nat) (ats:List AV) (ha:Ats ats) (c1 c2 c3 c4:Int) (up:Bool) (us:List AV) (h:Us us):Wp (F_fit_CheckView nm ats c1 c2 c3 c4 up us) fun v=>∃n,v=.int .i64 n/\(n=0->okA c1 c2 c3 c4):=by
 have hL:=h.2
 have loop2:okA c1 c2 c3 c4->∀(n i:Nat),i<=us.length->us.length-i<n->Wp (F_fit_CheckView_l19 n us (Int.ofNat us.length) (Int.ofNat i) nm ats c1 c2 c3 c4 up us) fun v=>∃n,v=.int .i64 n/\(n=0->okA c1 c2 c3 c4):=by
  intro hok n
  induction n with
  | zero=>intro i _ h;omega
  | succ n ih=>
   intro i hi hn
   rw [F_fit_CheckView_l19_eq]
   refine Wp.lt (fun hlt=>h.at hlt fun s a b c d e f t g he=>wk_T2A4iiiib (fit_room nm ats c1 c2 c3 c4 up us h t) fun _ _ _ _ _ _=>Wp.if (fun _=>Wp.mk ⟨_,rfl,fun _=>hok⟩) fun _=>?_) fun _=>Wp.mk ⟨_,rfl,fun _=>hok⟩
   rw [wrapx_succ (by omega)]
   exact ih (i+1) hlt (by omega)
 have loop:okA c1 c2 c3 c4->∀(n i:Nat) (m:List (AV×AV)),MapTB m->i<=us.length->us.length-i<n->Wp (F_fit_CheckView_l11 n us (Int.ofNat us.length) (Int.ofNat i) nm ats c1 c2 c3 c4 up us m) fun v=>∃n,v=.int .i64 n/\(n=0->okA c1 c2 c3 c4):=by
  intro hok n
  induction n with
  | zero=>intro i _ _ _ h;omega
  | succ n ih=>
   intro i m hm hi hn
   rw [F_fit_CheckView_l11_eq]
   refine Wp.lt (fun hlt=>h.at hlt fun s a b c d e f t g he=>wk_b (fit_fineUse s a b c d e f t g) fun _ _=>Wp.if (fun _=>Wp.mk ⟨_,rfl,fun _=>hok⟩) fun _=>?_) fun _=>loop2 hok _ 0 (Nat.zero_le _) (FUEL_gt (by omega))
   have hf:∃q,lkR false (AV.bool false) (mfind true [Kd.s,Kd.i] (AV.agg [AV.str s,AV.int IntKind.i64 a]) m)=some (.bool q):=by
    rcases mfind_task hm s a with e | ⟨b,e⟩ <;> rw [e]
    ·exact ⟨false,rfl⟩
    ·exact ⟨b,rfl⟩
   obtain ⟨q,hq⟩:=hf
   refine qk_b hq (Wp.if (fun _=>Wp.mk ⟨_,rfl,fun _=>hok⟩) fun _=>?_)
   obtain ⟨m',e,hm'⟩:=mput_task hm s a true
   rw [e,bd_some',wrapx_succ (by omega)]
   exact ih (i+1) m' hm' hlt (by omega)
 have j1:∀q,(q=false->okA c1 c2 c3 c4)->Wp (F_fit_CheckView_j1 q nm ats c1 c2 c3 c4 up us) fun v=>∃n,v=.int .i64 n/\(n=0->okA c1 c2 c3 c4):=fun q hq=>by
  rw [F_fit_CheckView_j1_eq]
  refine Wp.if (fun _=>Wp.mk ⟨_,rfl,fun h=>(by cases h)⟩) fun e=>?_
  rw [F_fit_CheckView_j0_eq]
  exact loop (hq e) _ 0 [] (fun p hp=>by cases hp) (Nat.zero_le _) (FUEL_gt (by omega))
 rw [F_fit_CheckView_eq]
 refine Wp.ite (fun _=>j1 _ fun e=>(by cases e)) fun _=>Wp.ite (fun _=>j1 _ fun e=>(by cases e)) fun _=>wk_i (rule_Attrs ats ha) fun n _=>Wp.if (fun _=>j1 _ fun e=>(by cases e)) fun _=>qk_i (resource_Check ..) (j1 _ fun e=>?_)
 split at e
 ·assumption
 ·cases e
theorem fit_Room (nm:List Nat) (ats:List AV) (ha:Ats ats) (c1 c2 c3 c4:Int) (up:Bool) (us:List AV) (h:Us us):Wp (F_fit_Room nm ats c1 c2 c3 c4 up us []) fun v=>∃x y z u n,v=.tup [am x y z u,.int .i64 n]/\within c1 c2 c3 c4 x y z u:=by
 have z:within c1 c2 c3 c4 0 0 0 0:=fun hk=>by unfold okA at *;exact ⟨by decide,hk.1.1,hk.2.1.1,hk.2.2.1.1,hk.2.2.2.1⟩
 rw [F_fit_Room_eq]
 refine wk_i (fit_CheckView nm ats ha c1 c2 c3 c4 up us h) fun n _=>Wp.if (fun _=>Wp.mk ⟨_,_,_,_,_,rfl,z⟩) fun _=>wk_T2A4iiiib (fit_room nm ats c1 c2 c3 c4 up us h []) fun x y z' u g hw=>Wp.if (fun _=>Wp.mk ⟨_,_,_,_,_,rfl,z⟩) fun _=>Wp.mk ⟨_,_,_,_,_,rfl,hw rfl⟩
theorem fit_CheckNeed (s:List Nat) (bd a b c d:Int) (r:List AV) (hr:Nds r) (t:List Nat):Wp (F_fit_CheckNeed s bd a b c d r t) fun v=>∃n,v=.int .i64 n/\(n=0->okA a b c d/\¬(a=0/\b=0/\c=0/\d=0)):=by
 have j1:∀q,(q=true->okA a b c d/\¬(a=0/\b=0/\c=0/\d=0))->Wp (F_fit_CheckNeed_j1 q) fun v=>∃n,v=.int .i64 n/\(n=0->okA a b c d/\¬(a=0/\b=0/\c=0/\d=0)):=fun q hq=>by
  rw [F_fit_CheckNeed_j1_eq]
  exact Wp.if (fun _=>Wp.mk ⟨_,rfl,fun h=>(by cases h)⟩) fun e=>Wp.mk ⟨_,rfl,fun _=>hq (by simpa using e)⟩
 have j0:∀q,(q=true->okA a b c d/\¬(a=0/\b=0/\c=0/\d=0))->Wp (F_fit_CheckNeed_j0 q s bd a b c d r t) fun v=>∃n,v=.int .i64 n/\(n=0->okA a b c d/\¬(a=0/\b=0/\c=0/\d=0)):=fun q hq=>by
  rw [F_fit_CheckNeed_j0_eq]
  refine Wp.if (fun _=>Wp.if (fun hq'=>wk_b (spec_Name t) fun _ _=>Wp.if (fun _=>wk_b (slices_Equal r _ hr ?_) fun _ _=>j1 _ fun _=>hq hq') fun _=>j1 _ fun h=>(by cases h)) fun _=>j1 _ fun h=>(by cases h)) fun _=>j1 _ hq
  exact ⟨fun e he=>⟨_,_,_,_,_,_,List.mem_singleton.1 he,by decide,by decide,by decide,by decide⟩,by decide⟩
 rw [F_fit_CheckNeed_eq]
 refine wk_b (spec_Name s) fun _ _=>Wp.if (fun _=>Wp.ite (fun _=>Wp.ite (fun _=>qk_i (resource_Check ..) (Wp.if (fun h1=>Wp.if (fun h2=>wk_i (rule_Check r hr) fun _ _=>j0 _ fun _=>⟨?_,?_⟩) fun _=>j0 _ fun h=>(by cases h)) fun _=>j0 _ fun h=>(by cases h))) fun _=>j0 _ fun h=>(by cases h)) fun _=>j0 _ fun h=>(by cases h)) fun _=>j0 _ fun h=>(by cases h)
 ·split at h1
  ·assumption
  ·cases h1
 ·rintro ⟨rfl,rfl,rfl,rfl⟩
  cases h2
theorem fit_at (s:List Nat) (bd a b c d:Int) (r:List AV) (t:List Nat) (nm:List Nat) (ats:List AV) (c1 c2 c3 c4:Int) (up:Bool) (us:List AV) (h:Us us) (p:List Nat):Wp (F_fit_at s bd a b c d r t nm ats c1 c2 c3 c4 up us p) isE:=by
 have loop:∀(es:List AV),Us es->∀(n i:Nat) (x y z u:Int),i<=es.length->es.length-i<n->Wp (F_fit_at_l9 n es (Int.ofNat es.length) (Int.ofNat i) s bd a b c d r t x y z u) isE:=by
  intro es hes n
  induction n with
  | zero=>intro i _ _ _ _ _ h;omega
  | succ n ih=>
   intro i x y z u hi hn
   rw [F_fit_at_l9_eq]
   refine Wp.lt (fun hlt=>hes.at hlt fun _ _ _ _ _ _ _ _ _ _=>wk_T2A4iiiii (resource_Add ..) fun _ _ _ _ _ _=>?_) fun _=>qk_b (resource_Fits ..) (Wp.if (fun _=>Wp.mk ⟨_,rfl,trivial⟩) fun _=>Wp.mk ⟨_,rfl,trivial⟩)
   rw [wrapx_succ (by have:=hes.2;omega)]
   exact ih (i+1) _ _ _ _ hlt (by omega)
 rw [F_fit_at_eq]
 refine wk_T2A4iiiib (fit_room nm ats c1 c2 c3 c4 up us h p) fun _ _ _ _ _ _=>qk_b (resource_Fits ..) (Wp.if (fun _=>Wp.mk ⟨_,rfl,trivial⟩) fun _=>?_)
 rw [F_fit_goers_eq]
 refine wk_l9 (R:=fun l=>(∀e∈l,e∈us)/\l.length<=us.length) (wk_l9 (where_goers us h p s bd a b c d r t) fun l hl=>Wp.mk ⟨l,rfl,hl⟩) fun l hl=>?_
 exact loop l (h.sub hl.1 hl.2) _ 0 _ _ _ _ (Nat.zero_le _) (FUEL_gt (by have:=h.2;omega))
theorem fit_Fit (s:List Nat) (bd a b c d:Int) (r:List AV) (hr:Nds r) (t:List Nat) (nm:List Nat) (ats:List AV) (ha:Ats ats) (c1 c2 c3 c4:Int) (up:Bool) (us:List AV) (h:Us us):Wp (F_fit_Fit s bd a b c d r t nm ats c1 c2 c3 c4 up us) fun v=>∃k p e,v=.tup [.int .i64 k,.str p,.int .i64 e]/\(e=0->okA c1 c2 c3 c4/\okA a b c d/\¬(a=0/\b=0/\c=0/\d=0)):=by
 rw [F_fit_Fit_eq]
 refine wk_i (fit_CheckNeed s bd a b c d r hr t) fun n hn=>Wp.if (fun e=>Wp.mk ⟨_,_,_,rfl,fun h0=>?_⟩) fun hn0=>wk_i (fit_CheckView nm ats ha c1 c2 c3 c4 up us h) fun n' hv=>Wp.if (fun e=>Wp.mk ⟨_,_,_,rfl,fun h0=>?_⟩) fun hv0=>?_
 ·subst h0;cases e
 ·subst h0;cases e
 have hn0:=hn (by simpa using hn0)
 have hv0:=hv (by simpa using hv0)
 have fin:∀{k:Int} {p:List Nat} {e:Int},Wp (some (AV.tup [.int .i64 k,.str p,.int .i64 e])) fun v=>∃k p e,v=.tup [.int .i64 k,.str p,.int .i64 e]/\(e=0->okA c1 c2 c3 c4/\okA a b c d/\¬(a=0/\b=0/\c=0/\d=0)):=Wp.mk ⟨_,_,_,rfl,fun _=>⟨hv0,hn0⟩⟩
 refine wk_T2bi (rule_Holds r hr ats ha) fun _ _ _=>Wp.if (fun _=>fin) fun _=>Wp.if (fun _=>fin) fun _=>?_
 rw [F_fit_Fit_j0_eq]
 have loop:∀(es:List AV),Us es->∀(n i:Nat) (k:Int) (p:List Nat) (x:Int),i<=es.length->es.length-i<n->Wp (F_fit_Fit_l21 n s bd a b c d r t k p x es (Int.ofNat es.length) (Int.ofNat i) nm ats c1 c2 c3 c4 up us) fun v=>∃k p e,v=.tup [.int .i64 k,.str p,.int .i64 e]/\(e=0->okA c1 c2 c3 c4/\okA a b c d/\¬(a=0/\b=0/\c=0/\d=0)):=by
  intro es hes n
  induction n with
  | zero=>intro i _ _ _ _ h;omega
  | succ n ih=>
   intro i k p x hi hn
   have hL:=hes.2
   rw [F_fit_Fit_l21_eq]
   refine Wp.lt (fun hlt=>hes.at hlt fun s' a' b' c' d' e' f' t' g' _=>wk_T2si (canon_Task s' a') fun q _ _=>wk_i (fit_at s bd a b c d r t nm ats c1 c2 c3 c4 up us h q) fun z _=>?_) fun _=>fin
   have next:∀q' z' w,Wp (F_fit_Fit_j1 n s bd a b c d r t k p x q' z' es (Int.ofNat es.length) (Int.ofNat i) w nm ats c1 c2 c3 c4 up us s' a' b' c' d' e' f' t' g') fun v=>∃k p e,v=.tup [.int .i64 k,.str p,.int .i64 e]/\(e=0->okA c1 c2 c3 c4/\okA a b c d/\¬(a=0/\b=0/\c=0/\d=0)):=fun q' z' w=>by
    rw [F_fit_Fit_j1_eq,wrapx_succ (by omega)]
    exact Wp.if (fun _=>ih (i+1) _ _ _ hlt (by omega)) fun _=>ih (i+1) _ _ _ hlt (by omega)
   repeat' first | exact next _ _ _ | refine Wp.ite (fun _=>?_) (fun _=>?_) | refine Wp.if (fun _=>?_) (fun _=>?_)
 refine Wp.if (fun _=>wk_i (fit_at s bd a b c d r t nm ats c1 c2 c3 c4 up us h []) fun _ _=>fin) fun _=>wk_l9 (where_Fit us h s bd a b c d r t) fun l hl=>?_
 exact loop l (h.sub hl.1 hl.2) _ 0 _ _ _ (Nat.zero_le _) (FUEL_gt (by have:=h.2;have:=hl.2;omega))
end Go.Proofs.YthiefohjkbdjeaaGreatDoor.scoreBounds
namespace Go.Proofs.YthiefohjkbdjeaaGreatDoor.scoreBounds
open Go Go.Sy
def xq (c f l:Int):Int:=Int.tdiv ((if f-l > 0 then f-l else 0)*1000) c
theorem xq_ok {c f l:Int} (hc:0<c) (hc2:c<=1099511627776) (f0:0<=f) (f1:f<=c) (l0:0<=l) (l1:l<=1099511627776):wrapx .i64 (Int.tdiv (wrapx .i64 ((if wrapx .i64 (f-l) > 0 then wrapx .i64 (f-l) else 0)*1000)) c)=xq c f l/\0<=xq c f l/\xq c f l<=1000/\(1<=l->xq c f l<1000):=by
 rw [wrapx_of (n:=f-l) (by omega) (by omega)]
 have hb:0<=(if f-l > 0 then f-l else 0)/\(if f-l > 0 then f-l else 0)<=c/\(1<=l->(if f-l > 0 then f-l else 0)<c):=by split <;> omega
 unfold xq
 generalize (if f-l > 0 then f-l else 0)=y at *
 rw [wrapx_of (n:=y*1000) (by omega) (by omega)]
 have e:Int.tdiv (y*1000) c=y*1000 / c:=Int.tdiv_eq_ediv_of_nonneg (by omega)
 rw [e]
 have h1:0<=y*1000 / c:=Int.ediv_nonneg (by omega) (by omega)
 have h2:y*1000 / c<=1000:=Int.ediv_le_of_le_mul hc (by omega)
 have h3:1<=l->y*1000 / c<1000:=fun h=>Int.ediv_lt_of_lt_mul hc (by have:=hb.2.2 h;omega)
 exact ⟨wrapx_of (by omega) (by omega),h1,h2,h3⟩
def sameJ (j:List Nat):AV->Bool
 | .agg [.str s,_,_,_,_,_,_,_,.bool g]=>!g&&seqb s j
 | _=>false
def cntJ (j:List Nat) (es:List AV):Nat:=(es.filter (sameJ j)).length
theorem cntJ_le (j:List Nat) (es:List AV):cntJ j es<=es.length:=List.length_filter_le _ _
theorem score_l17 (k:Int) (es:List AV) (h:Us es) (hl:es.length<=30) (s:List Nat) (bd a b c d:Int) (r:List AV) (t:List Nat):∀(n i:Nat) (z:Int),i<=es.length->es.length-i<n->z<=14000->-20000+300*(i:Int)<=z+600*(i:Int)->F_score_score_l17 n k z es (Int.ofNat es.length) (Int.ofNat i) s bd a b c d r t=some (.int .i64 (z-300*(cntJ s (es.drop i):Int)-if k=1 then 4000 else 0)):=by
 intro n
 induction n with
 | zero=>intro i _ _ h;omega
 | succ n ih=>
  intro i z hi hn hz hz2
  refine of_Wp ?_
  rw [F_score_score_l17_eq]
  refine Wp.lt (fun hlt=>h.at hlt fun s' a' b' c' d' e' f' t' g' he=>?_) fun hge=>?_
  ·have hd:es.drop i=es[i]::es.drop (i+1):=List.drop_eq_getElem_cons hlt
   have hc:(cntJ s (es.drop i):Int)=(if (!g'&&seqb s' s)=true then 1 else 0)+(cntJ s (es.drop (i+1)):Int):=by
    rw [hd,he]
    unfold cntJ
    rw [List.filter_cons]
    show ((if (!g'&&seqb s' s)=true then _ else _:List AV).length:Int)=_
    split
    ·rw [List.length_cons];omega
    ·omega
   rw [wrapx_succ (by omega),wrapx_of (n:=z-300) (by omega) (by omega)]
   refine Wp.if (fun hg=>Wp.if (fun hs=>?_) fun hs=>?_) fun hg=>?_
   ·rw [ih (i+1) (z-300) hlt (by omega) (by omega) (by omega)]
    refine Wp.mk ?_
    rw [hc,hg,hs]
    congr 1
    simp only [Bool.and_self,if_true]
    omega
   ·rw [ih (i+1) z hlt (by omega) hz (by omega)]
    refine Wp.mk ?_
    rw [hc,hg,hs]
    congr 1
    simp only [Bool.and_false,Bool.false_eq_true,if_false]
    omega
   ·rw [ih (i+1) z hlt (by omega) hz (by omega)]
    refine Wp.mk ?_
    rw [hc,hg]
    congr 1
    simp only [Bool.false_and,Bool.false_eq_true,if_false]
    omega
  ·have:es.drop i=[]:=List.drop_eq_nil_of_le hge
   rw [this]
   have e0:(cntJ s []:Int)=0:=rfl
   rw [e0,wrapx_of (by omega) (by omega)]
   refine Wp.if (fun hk=>Wp.mk ?_) fun hk=>Wp.mk ?_
   ·have hk:k=1:=by simpa using hk
    rw [if_pos hk];congr 1;omega
   ·have hk:¬k=1:=by simpa using hk
    rw [if_neg hk];congr 1;omega
theorem score_score (s:List Nat) (bd a b c d:Int) (r:List AV) (t:List Nat) (nm:List Nat) (ats:List AV) (ha:Ats ats) (c1 c2 c3 c4:Int) (up:Bool) (us:List AV) (h:Us us) (hl:us.length<=30) (k:Int) (hc:okA c1 c2 c3 c4) (hn:okA a b c d) (hz:¬(a=0/\b=0/\c=0/\d=0)):∃T:Int,0<=T/\T<4000/\F_score_score s bd a b c d r t nm ats c1 c2 c3 c4 up us k=some (.int .i64 (14000-T-300*(cntJ s us:Int)-if k=1 then 4000 else 0)):=by
 have:Wp (F_score_score s bd a b c d r t nm ats c1 c2 c3 c4 up us k) fun v=>∃T:Int,0<=T/\T<4000/\v=.int .i64 (14000-T-300*(cntJ s us:Int)-if k=1 then 4000 else 0):=by
  rw [F_score_score_eq]
  refine wk_T2A4iiiii (fit_Room nm ats ha c1 c2 c3 c4 up us h) fun f1 f2 f3 f4 e hw=>?_
  obtain ⟨hf,w1,w2,w3,w4⟩:=hw hc
  have fin:∀z T:Int,0<=T->T<4000->z=14000-T->Wp (F_score_score_j0 k z s bd a b c d r t nm ats c1 c2 c3 c4 up us) fun v=>∃T:Int,0<=T/\T<4000/\v=.int .i64 (14000-T-300*(cntJ s us:Int)-if k=1 then 4000 else 0):=fun z T h0 h1 hz=>by
   rw [F_score_score_j0_eq,score_l17 k us h hl s bd a b c d r t _ 0 z (Nat.zero_le _) (FUEL_gt (by omega)) (by omega) (by omega)]
   refine Wp.mk ⟨T,h0,h1,?_⟩
   rw [List.drop_zero,hz]
  unfold okA at hc hn hf
  have q1:0<c1->_:=fun p=>xq_ok (l:=a) p hc.1.2 hf.1.1 w1 hn.1.1 hn.1.2
  have q2:0<c2->_:=fun p=>xq_ok (l:=b) p hc.2.1.2 hf.2.1.1 w2 hn.2.1.1 hn.2.1.2
  have q3:0<c3->_:=fun p=>xq_ok (l:=c) p hc.2.2.1.2 hf.2.2.1.1 w3 hn.2.2.1.1 hn.2.2.1.2
  have q4:0<c4->_:=fun p=>xq_ok (l:=d) p hc.2.2.2.2 hf.2.2.2.1 w4 hn.2.2.2.1 hn.2.2.2.2
  refine Wp.ite (fun p1=>Wp.gd (by omega) ?_) fun p1=>?_
  ·skip
   refine Wp.ite (fun p2=>Wp.gd (by omega) ?_) fun p2=>?_
   ·skip
    refine Wp.ite (fun p3=>Wp.gd (by omega) ?_) fun p3=>?_
    ·skip
     refine Wp.ite (fun p4=>Wp.gd (by omega) ?_) fun p4=>?_
     ·skip
      rw [(q1 p1).1]
      rw [(q2 p2).1]
      rw [(q3 p3).1]
      rw [(q4 p4).1]
      obtain ⟨_,g1⟩:=q1 p1
      generalize xq c1 f1 a=y1 at *
      obtain ⟨_,g2⟩:=q2 p2
      generalize xq c2 f2 b=y2 at *
      obtain ⟨_,g3⟩:=q3 p3
      generalize xq c3 f3 c=y3 at *
      obtain ⟨_,g4⟩:=q4 p4
      generalize xq c4 f4 d=y4 at *
      rw [show wrapx .i64 (Int.ofNat 11000-y1)=11000-y1 from wrapx_of (by rw [Int.ofNat_eq_natCast];omega) (by rw [Int.ofNat_eq_natCast];omega)]
      rw [show wrapx .i64 (11000-y1+1000)=11000-y1+1000 from wrapx_of (by omega) (by omega)]
      rw [show wrapx .i64 (11000-y1+1000-y2)=11000-y1+1000-y2 from wrapx_of (by omega) (by omega)]
      rw [show wrapx .i64 (11000-y1+1000-y2+1000)=11000-y1+1000-y2+1000 from wrapx_of (by omega) (by omega)]
      rw [show wrapx .i64 (11000-y1+1000-y2+1000-y3)=11000-y1+1000-y2+1000-y3 from wrapx_of (by omega) (by omega)]
      rw [show wrapx .i64 (11000-y1+1000-y2+1000-y3+1000)=11000-y1+1000-y2+1000-y3+1000 from wrapx_of (by omega) (by omega)]
      rw [show wrapx .i64 (11000-y1+1000-y2+1000-y3+1000-y4)=11000-y1+1000-y2+1000-y3+1000-y4 from wrapx_of (by omega) (by omega)]
      exact fin _ (y1+y2+y3+y4) (by omega) (by omega) (by omega)
     ·skip
      rw [(q1 p1).1]
      rw [(q2 p2).1]
      rw [(q3 p3).1]
      obtain ⟨_,g1⟩:=q1 p1
      generalize xq c1 f1 a=y1 at *
      obtain ⟨_,g2⟩:=q2 p2
      generalize xq c2 f2 b=y2 at *
      obtain ⟨_,g3⟩:=q3 p3
      generalize xq c3 f3 c=y3 at *
      rw [show wrapx .i64 (Int.ofNat 11000-y1)=11000-y1 from wrapx_of (by rw [Int.ofNat_eq_natCast];omega) (by rw [Int.ofNat_eq_natCast];omega)]
      rw [show wrapx .i64 (11000-y1+1000)=11000-y1+1000 from wrapx_of (by omega) (by omega)]
      rw [show wrapx .i64 (11000-y1+1000-y2)=11000-y1+1000-y2 from wrapx_of (by omega) (by omega)]
      rw [show wrapx .i64 (11000-y1+1000-y2+1000)=11000-y1+1000-y2+1000 from wrapx_of (by omega) (by omega)]
      rw [show wrapx .i64 (11000-y1+1000-y2+1000-y3)=11000-y1+1000-y2+1000-y3 from wrapx_of (by omega) (by omega)]
      rw [show wrapx .i64 (11000-y1+1000-y2+1000-y3+1000)=11000-y1+1000-y2+1000-y3+1000 from wrapx_of (by omega) (by omega)]
      exact fin _ (y1+y2+y3) (by omega) (by omega) (by omega)
    ·skip
     refine Wp.ite (fun p4=>Wp.gd (by omega) ?_) fun p4=>?_
     ·skip
      rw [(q1 p1).1]
      rw [(q2 p2).1]
      rw [(q4 p4).1]
      obtain ⟨_,g1⟩:=q1 p1
      generalize xq c1 f1 a=y1 at *
      obtain ⟨_,g2⟩:=q2 p2
      generalize xq c2 f2 b=y2 at *
      obtain ⟨_,g4⟩:=q4 p4
      generalize xq c4 f4 d=y4 at *
      rw [show wrapx .i64 (Int.ofNat 11000-y1)=11000-y1 from wrapx_of (by rw [Int.ofNat_eq_natCast];omega) (by rw [Int.ofNat_eq_natCast];omega)]
      rw [show wrapx .i64 (11000-y1+1000)=11000-y1+1000 from wrapx_of (by omega) (by omega)]
      rw [show wrapx .i64 (11000-y1+1000-y2)=11000-y1+1000-y2 from wrapx_of (by omega) (by omega)]
      rw [show wrapx .i64 (11000-y1+1000-y2+1000)=11000-y1+1000-y2+1000 from wrapx_of (by omega) (by omega)]
      rw [show wrapx .i64 (11000-y1+1000-y2+1000+1000)=11000-y1+1000-y2+1000+1000 from wrapx_of (by omega) (by omega)]
      rw [show wrapx .i64 (11000-y1+1000-y2+1000+1000-y4)=11000-y1+1000-y2+1000+1000-y4 from wrapx_of (by omega) (by omega)]
      exact fin _ (y1+y2+y4) (by omega) (by omega) (by omega)
     ·skip
      rw [(q1 p1).1]
      rw [(q2 p2).1]
      obtain ⟨_,g1⟩:=q1 p1
      generalize xq c1 f1 a=y1 at *
      obtain ⟨_,g2⟩:=q2 p2
      generalize xq c2 f2 b=y2 at *
      rw [show wrapx .i64 (Int.ofNat 11000-y1)=11000-y1 from wrapx_of (by rw [Int.ofNat_eq_natCast];omega) (by rw [Int.ofNat_eq_natCast];omega)]
      rw [show wrapx .i64 (11000-y1+1000)=11000-y1+1000 from wrapx_of (by omega) (by omega)]
      rw [show wrapx .i64 (11000-y1+1000-y2)=11000-y1+1000-y2 from wrapx_of (by omega) (by omega)]
      rw [show wrapx .i64 (11000-y1+1000-y2+1000)=11000-y1+1000-y2+1000 from wrapx_of (by omega) (by omega)]
      rw [show wrapx .i64 (11000-y1+1000-y2+1000+1000)=11000-y1+1000-y2+1000+1000 from wrapx_of (by omega) (by omega)]
      exact fin _ (y1+y2) (by omega) (by omega) (by omega)
   ·skip
    refine Wp.ite (fun p3=>Wp.gd (by omega) ?_) fun p3=>?_
    ·skip
     refine Wp.ite (fun p4=>Wp.gd (by omega) ?_) fun p4=>?_
     ·skip
      rw [(q1 p1).1]
      rw [(q3 p3).1]
      rw [(q4 p4).1]
      obtain ⟨_,g1⟩:=q1 p1
      generalize xq c1 f1 a=y1 at *
      obtain ⟨_,g3⟩:=q3 p3
      generalize xq c3 f3 c=y3 at *
      obtain ⟨_,g4⟩:=q4 p4
      generalize xq c4 f4 d=y4 at *
      rw [show wrapx .i64 (Int.ofNat 11000-y1)=11000-y1 from wrapx_of (by rw [Int.ofNat_eq_natCast];omega) (by rw [Int.ofNat_eq_natCast];omega)]
      rw [show wrapx .i64 (11000-y1+1000)=11000-y1+1000 from wrapx_of (by omega) (by omega)]
      rw [show wrapx .i64 (11000-y1+1000+1000)=11000-y1+1000+1000 from wrapx_of (by omega) (by omega)]
      rw [show wrapx .i64 (11000-y1+1000+1000-y3)=11000-y1+1000+1000-y3 from wrapx_of (by omega) (by omega)]
      rw [show wrapx .i64 (11000-y1+1000+1000-y3+1000)=11000-y1+1000+1000-y3+1000 from wrapx_of (by omega) (by omega)]
      rw [show wrapx .i64 (11000-y1+1000+1000-y3+1000-y4)=11000-y1+1000+1000-y3+1000-y4 from wrapx_of (by omega) (by omega)]
      exact fin _ (y1+y3+y4) (by omega) (by omega) (by omega)
     ·skip
      rw [(q1 p1).1]
      rw [(q3 p3).1]
      obtain ⟨_,g1⟩:=q1 p1
      generalize xq c1 f1 a=y1 at *
      obtain ⟨_,g3⟩:=q3 p3
      generalize xq c3 f3 c=y3 at *
      rw [show wrapx .i64 (Int.ofNat 11000-y1)=11000-y1 from wrapx_of (by rw [Int.ofNat_eq_natCast];omega) (by rw [Int.ofNat_eq_natCast];omega)]
      rw [show wrapx .i64 (11000-y1+1000)=11000-y1+1000 from wrapx_of (by omega) (by omega)]
      rw [show wrapx .i64 (11000-y1+1000+1000)=11000-y1+1000+1000 from wrapx_of (by omega) (by omega)]
      rw [show wrapx .i64 (11000-y1+1000+1000-y3)=11000-y1+1000+1000-y3 from wrapx_of (by omega) (by omega)]
      rw [show wrapx .i64 (11000-y1+1000+1000-y3+1000)=11000-y1+1000+1000-y3+1000 from wrapx_of (by omega) (by omega)]
      exact fin _ (y1+y3) (by omega) (by omega) (by omega)
    ·skip
     refine Wp.ite (fun p4=>Wp.gd (by omega) ?_) fun p4=>?_
     ·skip
      rw [(q1 p1).1]
      rw [(q4 p4).1]
      obtain ⟨_,g1⟩:=q1 p1
      generalize xq c1 f1 a=y1 at *
      obtain ⟨_,g4⟩:=q4 p4
      generalize xq c4 f4 d=y4 at *
      rw [show wrapx .i64 (Int.ofNat 11000-y1)=11000-y1 from wrapx_of (by rw [Int.ofNat_eq_natCast];omega) (by rw [Int.ofNat_eq_natCast];omega)]
      rw [show wrapx .i64 (11000-y1+1000)=11000-y1+1000 from wrapx_of (by omega) (by omega)]
      rw [show wrapx .i64 (11000-y1+1000+1000)=11000-y1+1000+1000 from wrapx_of (by omega) (by omega)]
      rw [show wrapx .i64 (11000-y1+1000+1000+1000)=11000-y1+1000+1000+1000 from wrapx_of (by omega) (by omega)]
      rw [show wrapx .i64 (11000-y1+1000+1000+1000-y4)=11000-y1+1000+1000+1000-y4 from wrapx_of (by omega) (by omega)]
      exact fin _ (y1+y4) (by omega) (by omega) (by omega)
     ·skip
      rw [(q1 p1).1]
      obtain ⟨_,g1⟩:=q1 p1
      generalize xq c1 f1 a=y1 at *
      rw [show wrapx .i64 (Int.ofNat 11000-y1)=11000-y1 from wrapx_of (by rw [Int.ofNat_eq_natCast];omega) (by rw [Int.ofNat_eq_natCast];omega)]
      rw [show wrapx .i64 (11000-y1+1000)=11000-y1+1000 from wrapx_of (by omega) (by omega)]
      rw [show wrapx .i64 (11000-y1+1000+1000)=11000-y1+1000+1000 from wrapx_of (by omega) (by omega)]
      rw [show wrapx .i64 (11000-y1+1000+1000+1000)=11000-y1+1000+1000+1000 from wrapx_of (by omega) (by omega)]
      exact fin _ (y1) (by omega) (by omega) (by omega)
  ·skip
   refine Wp.ite (fun p2=>Wp.gd (by omega) ?_) fun p2=>?_
   ·skip
    refine Wp.ite (fun p3=>Wp.gd (by omega) ?_) fun p3=>?_
    ·skip
     refine Wp.ite (fun p4=>Wp.gd (by omega) ?_) fun p4=>?_
     ·skip
      rw [(q2 p2).1]
      rw [(q3 p3).1]
      rw [(q4 p4).1]
      obtain ⟨_,g2⟩:=q2 p2
      generalize xq c2 f2 b=y2 at *
      obtain ⟨_,g3⟩:=q3 p3
      generalize xq c3 f3 c=y3 at *
      obtain ⟨_,g4⟩:=q4 p4
      generalize xq c4 f4 d=y4 at *
      rw [show wrapx .i64 (Int.ofNat 12000-y2)=12000-y2 from wrapx_of (by rw [Int.ofNat_eq_natCast];omega) (by rw [Int.ofNat_eq_natCast];omega)]
      rw [show wrapx .i64 (12000-y2+1000)=12000-y2+1000 from wrapx_of (by omega) (by omega)]
      rw [show wrapx .i64 (12000-y2+1000-y3)=12000-y2+1000-y3 from wrapx_of (by omega) (by omega)]
      rw [show wrapx .i64 (12000-y2+1000-y3+1000)=12000-y2+1000-y3+1000 from wrapx_of (by omega) (by omega)]
      rw [show wrapx .i64 (12000-y2+1000-y3+1000-y4)=12000-y2+1000-y3+1000-y4 from wrapx_of (by omega) (by omega)]
      exact fin _ (y2+y3+y4) (by omega) (by omega) (by omega)
     ·skip
      rw [(q2 p2).1]
      rw [(q3 p3).1]
      obtain ⟨_,g2⟩:=q2 p2
      generalize xq c2 f2 b=y2 at *
      obtain ⟨_,g3⟩:=q3 p3
      generalize xq c3 f3 c=y3 at *
      rw [show wrapx .i64 (Int.ofNat 12000-y2)=12000-y2 from wrapx_of (by rw [Int.ofNat_eq_natCast];omega) (by rw [Int.ofNat_eq_natCast];omega)]
      rw [show wrapx .i64 (12000-y2+1000)=12000-y2+1000 from wrapx_of (by omega) (by omega)]
      rw [show wrapx .i64 (12000-y2+1000-y3)=12000-y2+1000-y3 from wrapx_of (by omega) (by omega)]
      rw [show wrapx .i64 (12000-y2+1000-y3+1000)=12000-y2+1000-y3+1000 from wrapx_of (by omega) (by omega)]
      exact fin _ (y2+y3) (by omega) (by omega) (by omega)
    ·skip
     refine Wp.ite (fun p4=>Wp.gd (by omega) ?_) fun p4=>?_
     ·skip
      rw [(q2 p2).1]
      rw [(q4 p4).1]
      obtain ⟨_,g2⟩:=q2 p2
      generalize xq c2 f2 b=y2 at *
      obtain ⟨_,g4⟩:=q4 p4
      generalize xq c4 f4 d=y4 at *
      rw [show wrapx .i64 (Int.ofNat 12000-y2)=12000-y2 from wrapx_of (by rw [Int.ofNat_eq_natCast];omega) (by rw [Int.ofNat_eq_natCast];omega)]
      rw [show wrapx .i64 (12000-y2+1000)=12000-y2+1000 from wrapx_of (by omega) (by omega)]
      rw [show wrapx .i64 (12000-y2+1000+1000)=12000-y2+1000+1000 from wrapx_of (by omega) (by omega)]
      rw [show wrapx .i64 (12000-y2+1000+1000-y4)=12000-y2+1000+1000-y4 from wrapx_of (by omega) (by omega)]
      exact fin _ (y2+y4) (by omega) (by omega) (by omega)
     ·skip
      rw [(q2 p2).1]
      obtain ⟨_,g2⟩:=q2 p2
      generalize xq c2 f2 b=y2 at *
      rw [show wrapx .i64 (Int.ofNat 12000-y2)=12000-y2 from wrapx_of (by rw [Int.ofNat_eq_natCast];omega) (by rw [Int.ofNat_eq_natCast];omega)]
      rw [show wrapx .i64 (12000-y2+1000)=12000-y2+1000 from wrapx_of (by omega) (by omega)]
      rw [show wrapx .i64 (12000-y2+1000+1000)=12000-y2+1000+1000 from wrapx_of (by omega) (by omega)]
      exact fin _ (y2) (by omega) (by omega) (by omega)
   ·skip
    refine Wp.ite (fun p3=>Wp.gd (by omega) ?_) fun p3=>?_
    ·skip
     refine Wp.ite (fun p4=>Wp.gd (by omega) ?_) fun p4=>?_
     ·skip
      rw [(q3 p3).1]
      rw [(q4 p4).1]
      obtain ⟨_,g3⟩:=q3 p3
      generalize xq c3 f3 c=y3 at *
      obtain ⟨_,g4⟩:=q4 p4
      generalize xq c4 f4 d=y4 at *
      rw [show wrapx .i64 (Int.ofNat 13000-y3)=13000-y3 from wrapx_of (by rw [Int.ofNat_eq_natCast];omega) (by rw [Int.ofNat_eq_natCast];omega)]
      rw [show wrapx .i64 (13000-y3+1000)=13000-y3+1000 from wrapx_of (by omega) (by omega)]
      rw [show wrapx .i64 (13000-y3+1000-y4)=13000-y3+1000-y4 from wrapx_of (by omega) (by omega)]
      exact fin _ (y3+y4) (by omega) (by omega) (by omega)
     ·skip
      rw [(q3 p3).1]
      obtain ⟨_,g3⟩:=q3 p3
      generalize xq c3 f3 c=y3 at *
      rw [show wrapx .i64 (Int.ofNat 13000-y3)=13000-y3 from wrapx_of (by rw [Int.ofNat_eq_natCast];omega) (by rw [Int.ofNat_eq_natCast];omega)]
      rw [show wrapx .i64 (13000-y3+1000)=13000-y3+1000 from wrapx_of (by omega) (by omega)]
      exact fin _ (y3) (by omega) (by omega) (by omega)
    ·skip
     refine Wp.ite (fun p4=>Wp.gd (by omega) ?_) fun p4=>?_
     ·skip
      rw [(q4 p4).1]
      obtain ⟨_,g4⟩:=q4 p4
      generalize xq c4 f4 d=y4 at *
      rw [show wrapx .i64 (Int.ofNat 14000-y4)=14000-y4 from wrapx_of (by rw [Int.ofNat_eq_natCast];omega) (by rw [Int.ofNat_eq_natCast];omega)]
      exact fin _ (y4) (by omega) (by omega) (by omega)
     ·skip
      exact fin _ (0) (by omega) (by omega) (by rfl)
 obtain ⟨v,e,T,h0,h1,rfl⟩:=this
 exact ⟨T,h0,h1,e⟩
end Go.Proofs.YthiefohjkbdjeaaGreatDoor.scoreBounds
namespace Go.Proofs.YthiefohjkbdjeaaGreatDoor.scoreBounds
open Go Go.Sy
theorem score_Score {s:List Nat} {bd a b c d:Int} {r:List AV} {t:List Nat} {nm:List Nat} {ats:List AV} (ha:Ats ats) {c1 c2 c3 c4:Int} {up:Bool} {us:List AV} (h:Us us) (hl:us.length<=30) {k:Int} {p:List Nat} {e:Int} (hF:F_fit_Fit s bd a b c d r t nm ats c1 c2 c3 c4 up us=some (.tup [.int .i64 k,.str p,.int .i64 e])) (hok:e=0->okA c1 c2 c3 c4/\okA a b c d/\¬(a=0/\b=0/\c=0/\d=0)):
  Wp (F_score_Score s bd a b c d r t nm ats c1 c2 c3 c4 up us) fun v=>∃z e',v=.tup [.int .i64 z,.int .i64 e']/\((e≠0/\z=0/\e'=e)\/(e=0/\k=0/\z=0/\e'=14)\/(e=0/\k≠0/\e'=0/\∃T:Int,0<=T/\T<4000/\z=14000-T-300*(cntJ s us:Int)-if k=1 then 4000 else 0)):=by
 rw [F_score_Score_eq]
 refine qk_T3isi hF (Wp.if (fun he=>Wp.mk ⟨_,_,rfl,.inl ⟨by simpa using he,rfl,rfl⟩⟩) fun he=>Wp.if (fun hk=>Wp.mk ⟨_,_,rfl,.inr (.inl ⟨by simpa using he,by simpa using hk,rfl,rfl⟩)⟩) fun hk=>?_)
 have he:e=0:=by simpa using he
 have hk:¬k=0:=by simpa using hk
 obtain ⟨o1,o2,o3⟩:=hok he
 obtain ⟨T,h0,h1,hs⟩:=score_score s bd a b c d r t nm ats ha c1 c2 c3 c4 up us h hl k o1 o2 o3
 exact qk_i hs (Wp.mk ⟨_,_,rfl,.inr (.inr ⟨he,hk,rfl,T,h0,h1,rfl⟩)⟩)
theorem law_loop (s:List Nat) (bd a b c d:Int) (r:List AV) (hr:Nds r) (t:List Nat) (nm:List Nat) (ats:List AV) (ha:Ats ats) (c1 c2 c3 c4:Int) (up:Bool) (us:List AV) (h:Us us) (hl:us.length<=30) (z:Int) (hz:z<=10000-300*(cntJ s us:Int)):∀(n i:Nat) (l:List AV),i<=us.length->us.length-i<n->Us l->l.length<=i->cntJ s l+cntJ s (us.drop i)=cntJ s us->Wp (F_berthmasterlaw18_ScoreBounds_l21 n z (Int.ofNat i) s bd a b c d r t nm ats c1 c2 c3 c4 up us nm ats c1 c2 c3 c4 up l) fun v=>v=.bool true:=by
 intro n
 induction n with
 | zero=>intro i _ _ h;omega
 | succ n ih=>
  intro i l hi hn hlu hll hc
  rw [F_berthmasterlaw18_ScoreBounds_l21_eq]
  refine Wp.lt (fun hlt=>h.at hlt fun s' a' b' c' d' e' f' t' g' he=>?_) fun hge=>?_
  ·have hd:us.drop i=us[i]::us.drop (i+1):=List.drop_eq_getElem_cons hlt
   have hcc:cntJ s (us.drop i)=(if (!g'&&seqb s' s)=true then 1 else 0)+cntJ s (us.drop (i+1)):=by
    rw [hd,he]
    unfold cntJ
    rw [List.filter_cons]
    show (if (!g'&&seqb s' s)=true then _ else _:List AV).length=_
    split
    ·rw [List.length_cons];omega
    ·omega
   have hone:cntJ s (l++[uAV s' a' b' c' d' e' f' t' g'])=cntJ s l+if (!g'&&seqb s' s)=true then 1 else 0:=by
    unfold cntJ
    rw [List.filter_append,List.length_append]
    congr 1
    rw [List.filter_cons]
    show (if (!g'&&seqb s' s)=true then _ else _:List AV).length=_
    split <;> rfl
   have next:∀q,(q=false->(!g'&&seqb s' s)=false)->Wp (F_berthmasterlaw18_ScoreBounds_j3 n z (Int.ofNat i) q s bd a b c d r t nm ats c1 c2 c3 c4 up us nm ats c1 c2 c3 c4 up s' a' b' c' d' e' f' t' g' l) fun v=>v=.bool true:=fun q hq=>by
    rw [F_berthmasterlaw18_ScoreBounds_j3_eq]
    refine Wp.if (fun _=>Wp.gd (room_ok (show l.length+1<=_ by omega) (by omega)) ?_) fun hq'=>?_
    ·rw [F_berthmasterlaw18_ScoreBounds_j2_eq,wrapx_succ (by omega)]
     refine ih (i+1) (l++[uAV s' a' b' c' d' e' f' t' g']) hlt (by omega) ⟨fun x hx=>?_,?_⟩ ?_ ?_
     ·rcases List.mem_append.1 hx with hx | hx
      ·exact hlu.1 x hx
      ·exact ⟨_,_,_,_,_,_,_,_,_,List.mem_singleton.1 hx⟩
     ·rw [List.length_append];show l.length+1<=_;omega
     ·rw [List.length_append];show l.length+1<=_;omega
     ·rw [hone];omega
    ·rw [F_berthmasterlaw18_ScoreBounds_j2_eq,wrapx_succ (by omega)]
     refine ih (i+1) l hlt (by omega) hlu (by omega) ?_
     rw [hq hq'] at hcc
     simp only [Bool.false_eq_true,if_false] at hcc
     omega
   refine Wp.if (fun _=>next _ fun e=>(by cases e)) fun hs=>Wp.if (fun _=>next _ fun e=>(by cases e)) fun _=>Wp.if (fun _=>next _ fun e=>(by cases e)) fun _=>Wp.ite (fun _=>next _ fun e=>(by cases e)) fun _=>next _ fun _=>?_
   rw [hs,Bool.and_false]
  ·obtain ⟨v,hF,k,p,e,rfl,hok⟩:=fit_Fit s bd a b c d r hr t nm ats ha c1 c2 c3 c4 up l hlu
   refine qk_T3isi hF (wk_T2ii (score_Score ha hlu (by omega) hF hok) fun z' e' hcase=>?_)
   refine Wp.if (fun _=>Wp.mk rfl) fun he=>Wp.if (fun _=>Wp.mk rfl) fun hk=>?_
   have he:e=0:=by simpa using he
   have hk:k=2:=by simpa using hk
   subst he;subst hk
   rcases hcase with ⟨h1,_⟩ | ⟨_,h1,_⟩ | ⟨_,_,rfl,T,h0,h1,rfl⟩
   ·exact absurd rfl h1
   ·exact absurd h1 (by decide)
   ·refine Wp.if (fun _=>Wp.mk ?_) fun h=>(by cases h)
    have hdr:us.drop i=[]:=List.drop_eq_nil_of_le hge
    rw [hdr] at hc
    have hcn:cntJ s l=cntJ s us:=hc
    rw [hcn,if_neg (by decide)]
    exact congrArg AV.bool (decide_eq_true (by omega))
theorem law (s:List Nat) (bd a b c d:Int) (r:List AV) (hr:Nds r) (t:List Nat) (nm:List Nat) (ats:List AV) (ha:Ats ats) (c1 c2 c3 c4:Int) (up:Bool) (us:List AV) (h:Us us):F_berthmasterlaw18_ScoreBounds s bd a b c d r t nm ats c1 c2 c3 c4 up us=some (.bool true):=by
 refine of_Wp ?_
 rw [F_berthmasterlaw18_ScoreBounds_eq]
 refine qk_b ext_lives (Wp.if (fun h=>(by cases h)) fun _=>Wp.ite (fun _=>Wp.mk rfl) fun hl=>?_)
 have hl:us.length<=30:=by rw [Int.ofNat_eq_natCast] at hl;omega
 obtain ⟨v,hF,k,p,e,rfl,hok⟩:=fit_Fit s bd a b c d r hr t nm ats ha c1 c2 c3 c4 up us h
 refine wk_T2ii (score_Score ha h hl hF hok) fun z e' hcase=>qk_T3isi hF ?_
 have hcn:=cntJ_le s us
 rcases hcase with ⟨h1,rfl,rfl⟩ | ⟨rfl,rfl,rfl,rfl⟩ | ⟨rfl,hk,rfl,T,h0,h1,hz⟩
 ·have e1:(e' != 0)=true:=by simpa using h1
  have e2:(e'==e')=true:=by simp
  rw [e1,br_true,show ((0:Int)==0)=true from rfl,br_true,br_true,e2,br_true]
  exact Wp.mk rfl
 ·exact Wp.mk rfl
 ·refine Wp.if (fun h=>(by cases h)) fun _=>Wp.if (fun h=>absurd (by simpa using h) hk) fun _=>Wp.ite (fun h=>?_) fun _=>Wp.ite (fun h=>?_) fun _=>?_
  ·split at hz <;> omega
  ·rw [Int.ofNat_eq_natCast,wrapx_of (n:=300*(us.length:Int)) (by omega) (by omega),wrapx_of (by omega) (by omega)] at h
   split at hz <;> omega
  ·rw [F_berthmasterlaw18_ScoreBounds_j0_eq]
   refine Wp.if (fun _=>Wp.mk rfl) fun hk1=>Wp.if (fun _=>Wp.mk rfl) fun _=>?_
   have hk1:k=1:=by simpa using hk1
   subst hk1
   rw [if_pos rfl] at hz
   rw [F_berthmasterlaw18_ScoreBounds_j1_eq]
   have hlv:F_berthmasterkit_LendView nm ats c1 c2 c3 c4 up us=some (.agg [.str nm,.lst 2 ats,.int .i64 c1,.int .i64 c2,.int .i64 c3,.int .i64 c4,.bool up,.lst 9 us]):=by
    refine of_Wp ?_
    rw [F_berthmasterkit_LendView_eq]
    have h1:(chunks 2 0 ([]:List AV)).length+ats.length<=2000001:=by have:=ha.2;show 0+_<=_;omega
    have h2:(chunks 9 0 ([]:List AV)).length+us.length<=2000001:=by have:=h.2;show 0+_<=_;omega
    exact Wp.gd (room_ok h1 (by omega)) (Wp.gd (room_ok h2 (by omega)) (Wp.mk rfl))
   refine qk_A8sl2iiiibl9 hlv ?_
   refine law_loop s bd a b c d r hr t nm ats ha c1 c2 c3 c4 up us h hl z (by omega) _ 0 [] (Nat.zero_le _) (FUEL_gt (by omega)) ⟨fun e he=>(by cases he),by decide⟩ (Nat.le_refl _) ?_
   show 0+cntJ s (us.drop 0)=_
   rw [List.drop_zero,Nat.zero_add]
end Go.Proofs.YthiefohjkbdjeaaGreatDoor.scoreBounds
namespace Go.Proofs.YthiefohjkbdjeaaGreatDoor.scoreBounds
open Go Go.Sy
def cdNode:List CD:=[.int .i64,.str,.str,.int .i64,.int .i64,.int .i64]
def cdNeed:List CD:=[.str,.int .i64,.int .i64,.int .i64,.int .i64,.int .i64,.sl cdNode false,.str]
def cdAttr:List CD:=[.str,.str]
def cdUse:List CD:=[.str,.int .i64,.int .i64,.int .i64,.int .i64,.int .i64,.int .i64,.str,.bool]
def cdView:List CD:=[.str,.sl cdAttr false,.int .i64,.int .i64,.int .i64,.int .i64,.bool,.sl cdUse false]
section
variable {N:Nat}
theorem CD_str {a:AV} (h:CD.Ok N .str a):∃s,a=.str s/\s.length<=N:=by cases h with | str l h hl hn=>exact ⟨l,rfl,hn⟩
theorem CD_int {a:AV} (h:CD.Ok N (.int .i64) a):∃n,a=.int .i64 n/\-9223372036854775808<=n/\n<=9223372036854775807:=by cases h with | int k n h=>exact ⟨n,rfl,h.1,h.2⟩
theorem CD_bool {a:AV} (h:CD.Ok N .bool a):∃b,a=.bool b:=by cases h with | bool b=>exact ⟨b,rfl⟩
theorem CD_cons {c:CD} {cs:List CD} {l:List AV} (h:CD.Oks N (c::cs) l):∃a r,l=a::r/\CD.Ok N c a/\CD.Oks N cs r:=by cases h with | cons h hs=>exact ⟨_,_,rfl,h,hs⟩
theorem CD_nil {l:List AV} (h:CD.Oks N [] l):l=[]:=by cases h;rfl
theorem CD_sl {es:List CD} {a:AV} (h:CD.Ok N (.sl es false) a):∃xs:List (List AV),a=.lst es.length (xs.map .agg)/\(∀x∈xs,CD.Oks N es x)/\xs.length<=N:=by cases h with | agg es xs h hn=>exact ⟨xs,rfl,h,hn⟩
theorem node_of {x:List AV} (h:CD.Oks N cdNode x):∃k s t n l r,x=[.int .i64 k,.str s,.str t,.int .i64 n,.int .i64 l,.int .i64 r]/\-9223372036854775808<=n/\n<=9223372036854775807/\s.length<=N/\t.length<=N:=by
 obtain ⟨_,_,rfl,h1,h⟩:=CD_cons h
 obtain ⟨_,_,rfl,h2,h⟩:=CD_cons h
 obtain ⟨_,_,rfl,h3,h⟩:=CD_cons h
 obtain ⟨_,_,rfl,h4,h⟩:=CD_cons h
 obtain ⟨_,_,rfl,h5,h⟩:=CD_cons h
 obtain ⟨_,_,rfl,h6,h⟩:=CD_cons h
 obtain rfl:=CD_nil h
 obtain ⟨k,rfl,_⟩:=CD_int h1
 obtain ⟨s,rfl,hs⟩:=CD_str h2
 obtain ⟨t,rfl,ht⟩:=CD_str h3
 obtain ⟨n,rfl,hn⟩:=CD_int h4
 obtain ⟨l,rfl,_⟩:=CD_int h5
 obtain ⟨r,rfl,_⟩:=CD_int h6
 exact ⟨k,s,t,n,l,r,rfl,hn.1,hn.2,hs,ht⟩
theorem nds_of {a:AV} (hN:N<=2000000) (h:CD.Ok N (.sl cdNode false) a):∃r,a=.lst 6 r/\Nds r:=by
 obtain ⟨xs,rfl,h1,h2⟩:=CD_sl h
 refine ⟨_,rfl,fun e he=>?_,by rw [List.length_map];omega⟩
 obtain ⟨x,hx,rfl⟩:=List.mem_map.1 he
 obtain ⟨k,s,t,n,l,r,rfl,n0,n1,hs,ht⟩:=node_of (h1 x hx)
 exact ⟨k,s,t,n,l,r,rfl,n0,n1,by omega,by omega⟩
theorem ats_of {a:AV} (hN:N<=2000000) (h:CD.Ok N (.sl cdAttr false) a):∃r,a=.lst 2 r/\Ats r:=by
 obtain ⟨xs,rfl,h1,h2⟩:=CD_sl h
 refine ⟨_,rfl,fun e he=>?_,by rw [List.length_map];omega⟩
 obtain ⟨x,hx,rfl⟩:=List.mem_map.1 he
 obtain ⟨_,_,rfl,k1,h⟩:=CD_cons (h1 x hx)
 obtain ⟨_,_,rfl,k2,h⟩:=CD_cons h
 obtain rfl:=CD_nil h
 obtain ⟨s,rfl,_⟩:=CD_str k1
 obtain ⟨t,rfl,_⟩:=CD_str k2
 exact ⟨s,t,rfl⟩
theorem us_of {a:AV} (hN:N<=2000000) (h:CD.Ok N (.sl cdUse false) a):∃r,a=.lst 9 r/\Us r:=by
 obtain ⟨xs,rfl,h1,h2⟩:=CD_sl h
 refine ⟨_,rfl,fun e he=>?_,by rw [List.length_map];omega⟩
 obtain ⟨x,hx,rfl⟩:=List.mem_map.1 he
 obtain ⟨_,_,rfl,k1,h⟩:=CD_cons (h1 x hx)
 obtain ⟨_,_,rfl,k2,h⟩:=CD_cons h
 obtain ⟨_,_,rfl,k3,h⟩:=CD_cons h
 obtain ⟨_,_,rfl,k4,h⟩:=CD_cons h
 obtain ⟨_,_,rfl,k5,h⟩:=CD_cons h
 obtain ⟨_,_,rfl,k6,h⟩:=CD_cons h
 obtain ⟨_,_,rfl,k7,h⟩:=CD_cons h
 obtain ⟨_,_,rfl,k8,h⟩:=CD_cons h
 obtain ⟨_,_,rfl,k9,h⟩:=CD_cons h
 obtain rfl:=CD_nil h
 obtain ⟨x1,rfl,_⟩:=CD_str k1
 obtain ⟨x2,rfl,_⟩:=CD_int k2
 obtain ⟨x3,rfl,_⟩:=CD_int k3
 obtain ⟨x4,rfl,_⟩:=CD_int k4
 obtain ⟨x5,rfl,_⟩:=CD_int k5
 obtain ⟨x6,rfl,_⟩:=CD_int k6
 obtain ⟨x7,rfl,_⟩:=CD_int k7
 obtain ⟨x8,rfl,_⟩:=CD_str k8
 obtain ⟨x9,rfl⟩:=CD_bool k9
 exact ⟨_,_,_,_,_,_,_,_,_,rfl⟩
theorem need_of {x:List AV} (hN:N<=2000000) (h:CD.Oks N cdNeed x):∃s bd a b c d r t,x=[.str s,.int .i64 bd,.int .i64 a,.int .i64 b,.int .i64 c,.int .i64 d,.lst 6 r,.str t]/\Nds r:=by
 obtain ⟨_,_,rfl,k1,h⟩:=CD_cons h
 obtain ⟨_,_,rfl,k2,h⟩:=CD_cons h
 obtain ⟨_,_,rfl,k3,h⟩:=CD_cons h
 obtain ⟨_,_,rfl,k4,h⟩:=CD_cons h
 obtain ⟨_,_,rfl,k5,h⟩:=CD_cons h
 obtain ⟨_,_,rfl,k6,h⟩:=CD_cons h
 obtain ⟨_,_,rfl,k7,h⟩:=CD_cons h
 obtain ⟨_,_,rfl,k8,h⟩:=CD_cons h
 obtain rfl:=CD_nil h
 obtain ⟨x1,rfl,_⟩:=CD_str k1
 obtain ⟨x2,rfl,_⟩:=CD_int k2
 obtain ⟨x3,rfl,_⟩:=CD_int k3
 obtain ⟨x4,rfl,_⟩:=CD_int k4
 obtain ⟨x5,rfl,_⟩:=CD_int k5
 obtain ⟨x6,rfl,_⟩:=CD_int k6
 obtain ⟨x7,rfl,hr⟩:=nds_of hN k7
 obtain ⟨x8,rfl,_⟩:=CD_str k8
 exact ⟨_,_,_,_,_,_,_,_,rfl,hr⟩
theorem view_of {x:List AV} (hN:N<=2000000) (h:CD.Oks N cdView x):∃nm ats c1 c2 c3 c4 up us,x=[.str nm,.lst 2 ats,.int .i64 c1,.int .i64 c2,.int .i64 c3,.int .i64 c4,.bool up,.lst 9 us]/\Ats ats/\Us us:=by
 obtain ⟨_,_,rfl,k1,h⟩:=CD_cons h
 obtain ⟨_,_,rfl,k2,h⟩:=CD_cons h
 obtain ⟨_,_,rfl,k3,h⟩:=CD_cons h
 obtain ⟨_,_,rfl,k4,h⟩:=CD_cons h
 obtain ⟨_,_,rfl,k5,h⟩:=CD_cons h
 obtain ⟨_,_,rfl,k6,h⟩:=CD_cons h
 obtain ⟨_,_,rfl,k7,h⟩:=CD_cons h
 obtain ⟨_,_,rfl,k8,h⟩:=CD_cons h
 obtain rfl:=CD_nil h
 obtain ⟨x1,rfl,_⟩:=CD_str k1
 obtain ⟨x2,rfl,ha⟩:=ats_of hN k2
 obtain ⟨x3,rfl,_⟩:=CD_int k3
 obtain ⟨x4,rfl,_⟩:=CD_int k4
 obtain ⟨x5,rfl,_⟩:=CD_int k5
 obtain ⟨x6,rfl,_⟩:=CD_int k6
 obtain ⟨x7,rfl⟩:=CD_bool k7
 obtain ⟨x8,rfl,hu⟩:=us_of hN k8
 exact ⟨_,_,_,_,_,_,_,_,rfl,ha,hu⟩
end
theorem law_fn {N:Nat} (hN:N<=2000000) {x y:List AV} (hx:CD.Oks N cdNeed x) (hy:CD.Oks N cdView y):FnT Tryz.prog G0 4 [.agg x,.agg y] [] 0 (.bool true) [] 0:=by
 have px:=hx.pp
 have py:=hy.pp
 obtain ⟨s,bd,a,b,c,d,r,t,rfl,hr⟩:=need_of hN hx
 obtain ⟨nm,ats,c1,c2,c3,c4,up,us,rfl,ha,hu⟩:=view_of hN hy
 have e:=law s bd a b c d r hr t nm ats ha c1 c2 c3 c4 up us hu
 have hf:EntOK Tryz.prog G0 4 (gv FUEL G0 (T86 FUEL) (O86 FUEL) grp86 1 4):=(tab87 FUEL).at
 refine (hf _ _ (fun z hz=>?_) (by unfold F_berthmasterlaw18_ScoreBounds at e;exact e)).2.2 [] 0
 rcases List.mem_cons.1 hz with rfl | hz
 ·exact .agg _ px
 ·rw [List.mem_singleton.1 hz]
  exact .agg _ py
end Go.Proofs.YthiefohjkbdjeaaGreatDoor.scoreBounds
namespace Go.Proofs.YthiefohjkbdjeaaGreatDoor.scoreBounds
open Go Go.Sy
def rowsBK (H:Type):BK H:=⟨Rows.uptoBulk,Rows.uptoBulkAll,fun _=>rfl,fun d=>by
 cases d with
 | lit l=>cases l <;> exact Nat.succ_pos _
 | _=>exact Nat.succ_pos _,fun _ _=>rfl,fun _=>rfl,rfl,fun _ _=>rfl⟩
theorem need_cd:cdOf Tryz.prog 9 37=some cdNeed:=by kernel_rfl
theorem view_cd:cdOf Tryz.prog 9 41=some cdView:=by kernel_rfl
end Go.Proofs.YthiefohjkbdjeaaGreatDoor.scoreBounds
