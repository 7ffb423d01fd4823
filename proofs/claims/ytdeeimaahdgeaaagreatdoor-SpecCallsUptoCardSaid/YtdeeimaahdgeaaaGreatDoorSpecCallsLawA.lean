/- THE LAW OF THE LEAN FUNCTIONS, IN PLAIN LEAN: whatever the arguments, it says true. No condition. -/
import Derived.Test.YtdeeimaahdgeaaaGreatDoorSpecCallsS2
import Derived.Lib.ItoaNum
import Derived.Test.YtdeeimaahdgeaaaGreatDoorRows
set_option linter.unusedVariables false
set_option linter.unusedSimpArgs false
set_option linter.unusedSectionVars false
namespace Go.Proofs.YtdeeimaahdgeaaaGreatDoor.spec
open Go Go.Sy
variable [MX]
theorem zTc:zDw=some (.bool true):=by
 unfold zDw gV;rw [zDM]
 kernel_rfl
end Go.Proofs.YtdeeimaahdgeaaaGreatDoor.spec
namespace Go.Proofs.YtdeeimaahdgeaaaGreatDoor.spec
open Go Go.Sy
theorem ek_i {β:Type} {wk:Bool} {f:(Int)->Option β} (x1:Int):dK wk [K.i IntKind.i64] (some (.int Go.IntKind.i64 x1)) f=f x1:=rfl
theorem qk_i {β:Type} {wk:Bool} {P:β->Prop} {f:(Int)->Option β} {o:Option (AV)} {x1:Int} (h:o=some (.int Go.IntKind.i64 x1)) (k:Wp (f x1) P):Wp (dK wk [K.i IntKind.i64] o f) P:=by
 subst h;exact k
theorem qk_u {β:Type} {wk:Bool} {P:β->Prop} {f:(Int)->Option β} {o:Option (AV)} {x1:Int} (h:o=some (.int Go.IntKind.u8 x1)) (k:Wp (f x1) P):Wp (dK wk [K.i IntKind.u8] o f) P:=by
 subst h;exact k
theorem ek_b {β:Type} {wk:Bool} {f:(Bool)->Option β} (x1:Bool):dK wk [K.b] (some (.bool x1)) f=f x1:=rfl
theorem qk_b {β:Type} {wk:Bool} {P:β->Prop} {f:(Bool)->Option β} {o:Option (AV)} {x1:Bool} (h:o=some (.bool x1)) (k:Wp (f x1) P):Wp (dK wk [K.b] o f) P:=by
 subst h;exact k
theorem ek_s {β:Type} {wk:Bool} {f:(List Nat)->Option β} (x1:List Nat):dK wk [K.s] (some (.str x1)) f=f x1:=rfl
theorem wk_s {β:Type} {wk:Bool} {P:β->Prop} {f:(List Nat)->Option β} {o:Option (AV)} {R:(List Nat)->Prop} (h:Wp o λ v=>∃(x1:List Nat),v=(.str x1)/\R x1) (k:∀(x1:List Nat),R x1->Wp (f x1) P):Wp (dK wk [K.s] o f) P:=by
 obtain ⟨v,rfl,h⟩:=h;obtain ⟨x1,rfl,h⟩:=h;exact k x1 h
theorem qk_s {β:Type} {wk:Bool} {P:β->Prop} {f:(List Nat)->Option β} {o:Option (AV)} {x1:List Nat} (h:o=some (.str x1)) (k:Wp (f x1) P):Wp (dK wk [K.s] o f) P:=by
 subst h;exact k
theorem zVC {β:Type} {wk:Bool} {P:β->Prop} {f:(Int)->(Bool)->Option β} {o:Option (AV)} {x2:Int} {x3:Bool} (h:o=some (.qf [.int Go.IntKind.i64 x2,.bool x3])) (k:Wp (f x2 x3) P):Wp (dK wk [K.qf 2,K.i IntKind.i64,K.b] o f) P:=by
 subst h;exact k
theorem zRk {β:Type} {wk:Bool} {P:β->Prop} {f:(Int)->(AV)->Option β} {o:Option (AV)} {x2:Int} {x3:AV} (h:o=some (.qf [.int Go.IntKind.i64 x2,x3])) (k:Wp (f x2 x3) P):Wp (dK wk [K.qf 2,K.i IntKind.i64,K.av] o f) P:=by
 subst h;exact k
theorem zB5 {β:Type} {wk:Bool} {P:β->Prop} {f:(Int)->(List Nat)->(List Nat)->(Int)->(Int)->(Int)->Option β} {o:Option (AV)} {x2:Int} {x3:List Nat} {x4:List Nat} {g:Int} {e:Int} {x7:Int} (h:o=some (.agg [.int Go.IntKind.i64 x2,.str x3,.str x4,.int Go.IntKind.i64 g,.int Go.IntKind.i64 e,.int Go.IntKind.i64 x7])) (k:Wp (f x2 x3 x4 g e x7) P):Wp (dK wk [K.agg 6,K.i IntKind.i64,K.s,K.s,K.i IntKind.i64,K.i IntKind.i64,K.i IntKind.i64] o f) P:=by
 subst h;exact k
theorem zTd {β:Type} {wk:Bool} {P:β->Prop} {f:(Int)->(Int)->(Int)->(Int)->Option β} {o:Option (AV)} {x2:Int} {x3:Int} {x4:Int} {e:Int} (h:o=some (.agg [.int Go.IntKind.i64 x2,.int Go.IntKind.i64 x3,.int Go.IntKind.i64 x4,.int Go.IntKind.i64 e])) (k:Wp (f x2 x3 x4 e) P):Wp (dK wk [K.agg 4,K.i IntKind.i64,K.i IntKind.i64,K.i IntKind.i64,K.i IntKind.i64] o f) P:=by
 subst h;exact k
theorem zRl {β:Type} {wk:Bool} {P:β->Prop} {f:(List AV)->Option β} {o:Option (AV)} {x2:List AV} (h:o=some (.agg [.qp 6 x2])) (k:Wp (f x2) P):Wp (dK wk [K.agg 1,K.l 6] o f) P:=by
 subst h;exact k
theorem zMp {β:Type} {wk:Bool} {P:β->Prop} {f:(List Nat)->(Int)->Option β} {o:Option (AV)} {x2:List Nat} {x3:Int} (h:o=some (.agg [.str x2,.int Go.IntKind.i64 x3])) (k:Wp (f x2 x3) P):Wp (dK wk [K.agg 2,K.s,K.i IntKind.i64] o f) P:=by
 subst h;exact k
theorem zMq {β:Type} {wk:Bool} {P:β->Prop} {f:(List Nat)->(Int)->Option β} {o:Option (AV)} {x2:List Nat} {x3:Int} (h:o=some (.qf [.str x2,.int Go.IntKind.i64 x3])) (k:Wp (f x2 x3) P):Wp (dK wk [K.qf 2,K.s,K.i IntKind.i64] o f) P:=by
 subst h;exact k
theorem zKS {β:Type} {wk:Bool} {P:β->Prop} {f:(Int)->(List Nat)->(List Nat)->(Int)->(Int)->(Int)->(List Nat)->(Int)->(Int)->(Int)->(Int)->(List AV)->(Int)->Option β} {o:Option (AV)} {x2:Int} {x3:List Nat} {x4:List Nat} {e:Int} {g:Int} {x7:Int} {x8:List Nat} {x9:Int} {x10:Int} {x11:Int} {x12:Int} {x13:List AV} {x14:Int} (h:o=some (.agg [.int Go.IntKind.i64 x2,.str x3,.str x4,.int Go.IntKind.i64 e,.int Go.IntKind.i64 g,.int Go.IntKind.i64 x7,.str x8,.int Go.IntKind.i64 x9,.int Go.IntKind.i64 x10,.int Go.IntKind.i64 x11,.int Go.IntKind.i64 x12,.qp 6 x13,.int Go.IntKind.i64 x14])) (k:Wp (f x2 x3 x4 e g x7 x8 x9 x10 x11 x12 x13 x14) P):Wp (dK wk [K.agg 13,K.i IntKind.i64,K.s,K.s,K.i IntKind.i64,K.i IntKind.i64,K.i IntKind.i64,K.s,K.i IntKind.i64,K.i IntKind.i64,K.i IntKind.i64,K.i IntKind.i64,K.l 6,K.i IntKind.i64] o f) P:=by
 subst h;exact k
theorem zQU {β:Type} {wk:Bool} {P:β->Prop} {f:(List AV)->Option β} {o:Option (AV×Heap×Vecs)} {x3:List AV} (h:o=some (.qf [],[(0,.cells false [AV.sym 0])],[(0,.vec 1 x3)])) (k:Wp (f x3) P):Wp (dD wk [D.v (K.qf 0),D.hc 0 false 1,D.v (K.c (AV.sym 0)),D.vec 0 1] o f) P:=by
 subst h;exact k
abbrev nd6 (k:Int) (s t:List Nat) (n l r:Int):AV:=.agg [.int .i64 k,.str s,.str t,.int .i64 n,.int .i64 l,.int .i64 r]
def topL:Nat:=4611686018427387904
def TL (es:List AV) (L:Nat->Nat) (m:Nat):Prop:=∀j,j<m->∃k s t n l r,es[j]? = some (nd6 k s t n l r)/\(-9223372036854775808<=n/\n<=9223372036854775807)/\s.length+t.length+24<=L j/\L j<=topL ∧
 (k=7->∃a:Nat,l=Int.ofNat a/\a<j/\L a+3<=L j)/\(k=8\/k=9->∃a b:Nat,l=Int.ofNat a/\r=Int.ofNat b/\a<j/\b<j/\L a+L b+7<=L j)
def upd {α:Type} (f:Nat->α) (a:Nat) (v:α):Nat->α:=λ j=>if j=a then v else f j
theorem zEJ {α:Type} {f:Nat->α} {a:Nat} {v:α}:upd f a v a=v:=if_pos rfl
theorem zCa {α:Type} {f:Nat->α} {a j:Nat} {v:α} (h:j≠a):upd f a v j=f j:=if_neg h
def rs (L:Nat->Nat) (c:Nat->Int):Nat->Nat
 | 0=>0
 | i+1=>rs L c i+if c i=0 then L i else 0
theorem zNd {L L':Nat->Nat} {c c':Nat->Int}:∀{i:Nat},(∀j,j<i->L j=L' j)->(∀j,j<i->(c j=c' j))->rs L c i=rs L' c' i
 | 0,_,_=>rfl
 | i+1,f,e=>by
  rw [rs,rs,zNd (λ j h=>f j (by omega)) λ j h=>e j (by omega),f i (by omega),e i (by omega)]
theorem zRm {L:Nat->Nat} {c:Nat->Int} {a:Nat} (g:c a=0) {v:Int} (f:v≠0):∀{i:Nat},a<i->rs L (upd c a v) i+L a=rs L c i
 | 0,h=>by omega
 | i+1,h=>by
  rw [rs,rs];by_cases e:a=i
  ·subst e;rw [zEJ,if_neg f,if_pos g,zNd (L':=L) (c':=c) (λ _ _=>rfl) λ j p=>zCa (by omega)]
   omega
  ·have:=zRm (L:=L) (c:=c) g f (show a<i by omega)
   rw [zCa (by omega)]
   omega
end Go.Proofs.YtdeeimaahdgeaaaGreatDoor.spec
namespace Go.Proofs.YtdeeimaahdgeaaaGreatDoor.spec
open Go Go.Sy
variable [MX]
def okQ' (c:Nat):Prop:=c<256
instance:DecidablePred okQ':=λ c=>by unfold okQ';infer_instance
abbrev okS (s:List Nat):Prop:=∀c∈s,okQ' c
theorem zKT {k:Nat} (h:k<10):(UInt8.ofNat (48+k)).toNat=48+k:=by
 rw [UInt8.toNat_ofNat'];omega
theorem zTe {k:Nat} (h:k<10):okQ' (48+k):=by unfold okQ';omega
theorem zJO (n:Nat):okS ((Lib.decDigits n).map UInt8.toNat):=by
 induction n using Nat.strongRecOn with
 | ind n f=>
  rw [Lib.decDigits];by_cases h:n<10
  ·rw [dif_pos h];intro c hc;simp only [Qd,List.map_nil,zKT h,Qc] at hc;subst hc;exact zTe h
  ·rw [dif_neg h,List.map_append];intro c hc;rcases QI.1 hc with hc | hc
   ·exact f (n / 10) (by omega) c hc
   ·have e:=Nat.mod_lt n (by decide:0<10)
    simp only [Qd,List.map_nil,zKT e,Qc] at hc;subst hc;exact zTe e
theorem zR9 (n:Int) (f:-9223372036854775808<=n) (e:n<=9223372036854775807):∃s,zBE n (Int.ofNat 10)=some (.str s)/\s.length<=21/\okS s:=by
 refine ⟨(Lib.itoa n).map UInt8.toNat,?_,?_,?_⟩
 ·show (match ((Int.ofNat 10==10)&&decide (-9223372036854775808<=n/\n<=9223372036854775807)) with | true=>some (AV.str ((Lib.itoa n).map UInt8.toNat)) | false=>none)=_
  rw [QL (⟨f,e⟩:-9223372036854775808<=n/\n<=9223372036854775807)];rfl
 ·rw [Qb];exact Lib.itoa_length_le n f e
 ·unfold Lib.itoa;split
  ·intro c hc;rcases QH.1 hc with rfl | hc
   ·decide
   ·exact zJO _ c hc
  ·exact zJO _
theorem zQh (s:List Nat) (h:s.length<=1000):∃n v,zCE s (Int.ofNat 10) (Int.ofNat 64)=some (.qf [.int .i64 n,v])/\-9223372036854775808<=n/\n<=9223372036854775807:=by
 have hs:∀l,-9223372036854775808<=Lib.intSat 64 l/\Lib.intSat 64 l<=9223372036854775807:=λ l=>by unfold Lib.intSat;split <;> decide
 have e:Nat.ble s.length 281474976710656=true:=by rw [Qs];omega
 have g:(Nat.ble s.length 281474976710656&&(Int.ofNat 10==10&&Int.ofNat 64==64))=true:=by rw [e];rfl
 unfold zCE zC7 zNX;simp only [g];cases hp:Lib.parseIntB 64 (s.map UInt8.ofNat) with
 | ok v=>
  have f:=Lib.parseIntB_bounds hp;exact ⟨_,_,rfl,f.1,Int.le_of_lt_add_one f.2⟩
 | range=>exact ⟨_,_,rfl,hs _⟩
 | _=>exact ⟨_,_,rfl,by decide,by decide⟩
def okA (a b c d:Int):Prop:=(0<=a/\a<=1099511627776)/\(0<=b/\b<=1099511627776)/\(0<=c/\c<=1099511627776)/\(0<=d/\d<=1099511627776)
instance (a b c d:Int):Decidable (okA a b c d):=by unfold okA;infer_instance
theorem zi {β:Type} {o:Option β} {x:β} (h:Wp o λ v=>v=x):o=some x:=let ⟨_,e,h⟩:=h;h▸e
theorem zKm (a b c d:Int):zGl a b c d=some (.int .i64 (if okA a b c d then 0 else 2)):=by
 refine zi ?_
 rw [zLl];refine zTd (zLk ..) ?_
 repeat' first | refine Wp.ite (λ _=>?_) (λ _=>?_) | refine Wp.mk ?_
 all_goals (first | rw [if_neg (by unfold okA;omega)];rfl | rw [if_pos (by unfold okA;omega)];rfl)
def zUA (a b c d e g c' f:Int):Prop:=a<=e/\b<=g/\c<=c'/\d<=f
instance (a b c d a' b' c' d':Int):Decidable (zUA a b c d a' b' c' d'):=by unfold zUA;infer_instance
def tx (m:Nat) (s:List Nat):Prop:=s.length<=m/\okS s
theorem zZ {a b:List Nat} (h:okS a) (k:okS b):okS (a++b):=λ c hc=>(QI.1 hc).elim (h c) (k c)
abbrev bytes (s:List Nat):List AV:=s.map λ b=>AV.int .u8 (.ofNat b)
theorem zKU (c:Int):zDs c=some (.bool (decide (48<=c/\c<=57))):=by
 rw [zN8];refine zi (Wp.ite (λ h=>Wp.mk ?_) λ h=>Wp.mk ?_)
 ·congr 1;exact decide_eq_decide.2 (by omega)
 ·congr 1;exact (QN (by omega)).symm
abbrev isE (v:AV):Prop:=∃n,v=.int .i64 n/\True
theorem zRn {n k:Nat} (h:n<=2000001) (e:k<=200):n*k<=zg/\n<=zg:=by
 have:n*k<=2000001*200:=Nat.mul_le_mul h e;unfold zg;omega
def within (a b c d x y z u:Int):Prop:=okA a b c d->okA x y z u/\x<=a/\y<=b/\z<=c/\u<=d
abbrev ndAV (k:Int) (s t:List Nat) (n l r:Int):AV:=.agg [.int .i64 k,.str s,.str t,.int .i64 n,.int .i64 l,.int .i64 r]
def Nds (es:List AV):Prop:=(∀e∈es,∃k s t n l r,e=ndAV k s t n l r/\-9223372036854775808<=n/\n<=9223372036854775807/\tx 2000000 s/\tx 2000000 t)/\es.length<=2000000
end Go.Proofs.YtdeeimaahdgeaaaGreatDoor.spec
namespace Go.Proofs.YtdeeimaahdgeaaaGreatDoor.spec
open Go Go.Sy
inductive RT where
 | leaf (k:Int) (a b:List Nat) (n:Int)
 | not (t:RT)
 | two (k:Int) (t u:RT)
namespace RT
def size:RT->Nat
 | .leaf ..=>1
 | .not t=>t.size+1
 | .two _ t u=>t.size+u.size+1
def fl:RT->Nat->List AV
 | .leaf k a b n,_=>[nd6 k a b n (Int.negSucc 0) (Int.negSucc 0)]
 | .not t,o=>t.fl o++[nd6 7 [] [] (Int.ofNat 0) (Int.ofNat (o+t.size-1)) (Int.negSucc 0)]
 | .two k t u,o=>t.fl o++u.fl (o+t.size)++[nd6 k [] [] (Int.ofNat 0) (Int.ofNat (o+t.size-1)) (Int.ofNat (o+t.size+u.size-1))]
theorem size_pos:∀t:RT,0<t.size
 | .leaf ..=>Nat.one_pos
 | .not t=>Qx _
 | .two _ t u=>Qx _
theorem fl_length:∀(t:RT) (o:Nat),(t.fl o).length=t.size
 | .leaf ..,_=>rfl
 | .not t,o=>by rw [fl,QC,fl_length t];rfl
 | .two _ t u,o=>by rw [fl,QC,QC,fl_length t,fl_length u];rfl
end RT
def lowB (c:Nat):Bool:=decide (97<=c/\c<=122)
def digB (c:Nat):Bool:=decide (48<=c/\c<=57)
def namB (c:Nat):Bool:=lowB c||(digB c||c==45)
def wrdB (c:Nat):Bool:=decide (97<=c/\c<=122\/65<=c/\c<=90\/48<=c/\c<=57\/c=45\/c=95\/c=46)
def rn (f:Nat->Bool) (s:List Nat) (i:Nat):Nat:=((s.drop i).takeWhile f).length
def isAt (f:Nat->Bool) (s:List Nat) (i:Nat):Bool:=match s[i]? with
 | some c=>f c
 | none=>false
def sk (s:List Nat) (i:Nat):Nat:=i+rn (·==32) s i
def cutS (s:List Nat) (i j:Nat):List Nat:=List.drop i (List.take j s)
theorem zFD {f:Nat->Bool} {s:List Nat} {i:Nat} (h:isAt f s i=true):rn f s i=rn f s (i+1)+1:=by
 unfold isAt at h;unfold rn;cases hc:s[i]? with
 | none=>rw [hc] at h;cases h
 | some c=>
  rw [hc] at h;obtain ⟨e,rfl⟩:=QD.1 hc;have h:f s[i]=true:=h;rw [Qg e,List.takeWhile_cons_of_pos h];rfl
theorem zHt {f:Nat->Bool} {s:List Nat} {i:Nat} (h:isAt f s i=false):rn f s i=0:=by
 unfold isAt at h;unfold rn;cases hc:s[i]? with
 | none=>rw [Qo (List.getElem?_eq_none_iff.1 hc)];rfl
 | some c=>
  rw [hc] at h;obtain ⟨e,rfl⟩:=QD.1 hc;have h:f s[i]=false:=h;rw [Qg e,List.takeWhile_cons_of_neg (by rw [h];decide)]
  rfl
theorem zHu {f:Nat->Bool} {s:List Nat} {i:Nat} (h:isAt f s i=true):i<s.length:=by
 unfold isAt at h;cases hc:s[i]? with
 | none=>rw [hc] at h;cases h
 | some c=>exact (QD.1 hc).1
theorem zAX {f:Nat->Bool} {s:List Nat} {i:Nat} (h:i<s.length):isAt f s i=f s[i]:=by
 unfold isAt;rw [QE h]
theorem zCb {f:Nat->Bool} {s:List Nat} {i:Nat} (h:s.length<=i):isAt f s i=false:=by
 unfold isAt;rw [List.getElem?_eq_none h]
theorem zDR (f:Nat->Bool) (s:List Nat) (i:Nat) (h:i<=s.length):i+rn f s i<=s.length:=by
 have:rn f s i<=(s.drop i).length:=(List.takeWhile_sublist f).length_le;rw [Qr] at this;omega
theorem zJb (f:Nat->Bool) (s:List Nat):∀(m i:Nat),s.length-i<=m->isAt f s (i+rn f s i)=false:=by
 intro m
 induction m with
 | zero=>
  intro i h;exact zCb (by omega)
 | succ m e=>
  intro i h;by_cases hc:isAt f s i=true
  ·have:=zHu hc;rw [zFD hc];have:=e (i+1) (by omega)
   rwa [show i+1+rn f s (i+1)=i+(rn f s (i+1)+1) by omega] at this
  ·have hc:isAt f s i=false:=by simpa using hc
   rw [zHt hc];exact hc
theorem zHY {f:Nat->Bool} {s:List Nat}:∀(k i:Nat),k<rn f s i->isAt f s (i+k)=true:=by
 intro k
 induction k with
 | zero=>
  intro i h;cases hc:isAt f s i with
  | true=>rfl
  | false=>rw [zHt hc] at h;omega
 | succ k e=>
  intro i h;cases hc:isAt f s i with
  | true=>
   rw [zFD hc] at h;have:=e (i+1) (by omega)
   rwa [show i+1+k=i+(k+1) by omega] at this
  | false=>rw [zHt hc] at h;omega
theorem zJP (s:List Nat) (i:Nat):i<=sk s i:=Qy _ _
theorem zAD {s:List Nat} {i:Nat} (h:i<=s.length):sk s i<=s.length:=zDR _ s i h
theorem zWu (s:List Nat) (i:Nat):isAt (·==32) s (sk s i)=false:=zJb _ s _ i (QB _)
theorem zID {s:List Nat} {i:Nat} (h:isAt (·==32) s i=false):sk s i=i:=by unfold sk;rw [zHt h];rfl
theorem zBA (s:List Nat) (i:Nat):sk s (sk s i)=sk s i:=zID (zWu s i)
abbrev RE (α:Type):=Except (Int×Int) α
def numV (l:List Nat):Nat:=l.foldl (λ x c=>10*x+(c-48)) 0
def zL0 (s:List Nat) (i:Nat):RE (Nat×List Nat):=
 if rn wrdB s (sk s i)=0 then .error (5,Int.ofNat (sk s i)) else if 32<rn wrdB s (sk s i) then .error (5,Int.ofNat (sk s i+32)) else .ok (sk s i+rn wrdB s (sk s i),cutS s (sk s i) (sk s i+rn wrdB s (sk s i)))
def zKn (s:List Nat) (i:Nat):RE (Nat×Int):=
 if isAt wrdB s (sk s i+min 12 (rn digB s (sk s i)))=true then .error (5,Int.ofNat (sk s i+min 12 (rn digB s (sk s i)))) else
 if rn digB s (sk s i)=0 then .error (5,Int.ofNat (sk s i)) else .ok (sk s i+min 12 (rn digB s (sk s i)),Int.ofNat (numV (cutS s (sk s i) (sk s i+min 12 (rn digB s (sk s i))))))
def zIE (s:List Nat) (i n:Nat) (k:Int) (a:List Nat):RE (Nat×Nat×RT):=match zL0 s i with
 | .error e=>.error e
 | .ok (j,v)=>.ok (j,n+1,.leaf k a v 0)
def zIF (s:List Nat) (i n:Nat) (k:Int) (a:List Nat):RE (Nat×Nat×RT):=match zKn s i with
 | .error e=>.error e
 | .ok (j,x)=>.ok (j,n+1,.leaf k a [] x)
def zDS (s:List Nat) (j n:Nat) (a:List Nat):RE (Nat×Nat×RT):=
 if s[j]? = some 61 then zIE s (j+1) n 2 a else
 if s[j]? = some 33/\s[j+1]? = some 61 then zIE s (j+2) n 3 a else
 if s[j]? = some 62/\s[j+1]? = some 61 then zIF s (j+2) n 4 a else
 if s[j]? = some 60/\s[j+1]? = some 61 then zIF s (j+2) n 5 a else
 if s[j]? = some 33\/s[j]? = some 62\/s[j]? = some 60 then .error (5,Int.ofNat (j+1)) else .ok (j,n+1,.leaf 6 a [] 0)
def zC8 (s:List Nat) (i n:Nat):RE (Nat×Nat×RT):=
 if isAt lowB s i=false then .error (5,Int.ofNat i) else
 if isAt wrdB s (i+min 24 (rn namB s i))=true then .error (5,Int.ofNat (i+min 24 (rn namB s i))) else
 if 64<n+1 then .error (3,Int.ofNat i) else
 if cutS s i (i+min 24 (rn namB s i))=[97,110,121] then .ok (i+min 24 (rn namB s i),n+1,.leaf 1 [] [] 0) else
 zDS s (sk s (i+min 24 (rn namB s i))) n (cutS s i (i+min 24 (rn namB s i)))
abbrev Rd:=Nat->Nat->RE (Nat×Nat×RT)
def zGe (next:Rd) (s:List Nat) (f:Nat) (k:Int):Nat->Nat->Nat->RT->RE (Nat×Nat×RT)
 | 0,i,n,t=>.ok (i,n,t)
 | m+1,i,n,t=>if s[sk s i]? = some f then
   if 64<n+1 then .error (3,Int.ofNat (sk s i)) else match next (sk s i+1) (n+1) with
    | .error e=>.error e
    | .ok (h,g,u)=>zGe next s f k m h g (.two k t u)
  else .ok (sk s i,n,t)
def zDT (next:Rd) (s:List Nat) (h:Nat) (k:Int):Rd:=λ i n=>match next i n with
 | .error e=>.error e
 | .ok (g,f,t)=>zGe next s h k 65 g f t
def zKo (s:List Nat) (r:RE (Nat×Nat×RT)):RE (Nat×Nat×RT):=match r with
 | .error e=>.error e
 | .ok (i,n,t)=>if s[sk s i]? = some 41 then .ok (sk s i+1,n,t) else .error (5,Int.ofNat (sk s i))
def notM (r:RE (Nat×Nat×RT)):RE (Nat×Nat×RT):=match r with
 | .error e=>.error e
 | .ok (i,n,t)=>.ok (i,n,.not t)
def oneM (s:List Nat):Nat->Rd
 | 0,i,n=>if s[sk s i]? = some 33\/s[sk s i]? = some 40 then .error (3,Int.ofNat (sk s i)) else zC8 s (sk s i) n
 | g+1,i,n=>if s[sk s i]? = some 33 then
   if 64<n+1 then .error (3,Int.ofNat (sk s i)) else notM (oneM s g (sk s i+1) (n+1))
  else if s[sk s i]? = some 40 then zKo s (zDT (zDT (oneM s g) s 38 8) s 124 9 (sk s i+1) n)
  else zC8 s (sk s i) n
abbrev andM (s:List Nat) (g:Nat):Rd:=zDT (oneM s g) s 38 8
abbrev orM (s:List Nat) (g:Nat):Rd:=zDT (andM s g) s 124 9
def RT.tg:RT->Int
 | .two k _ _=>if k=9 then 0 else if k=8 then 1 else 2
 | _=>2
def decI (n:Int):List Nat:=(Lib.itoa n).map UInt8.toNat
def zHO (k:Int) (a b:List Nat) (n:Int):List Nat:=
 if k=1 then [97,110,121] else if k=2 then a++[61]++b else if k=3 then a++[33,61]++b else if k=4 then a++[62,61]++decI n else if k=5 then a++[60,61]++decI n else a
def parT (g m:Int) (s:List Nat):List Nat:=if g<m then [40]++s++[41] else s
def RT.told:RT->List Nat
 | .leaf k a b n=>zHO k a b n
 | .not t=>[33]++parT t.tg 2 t.told
 | .two k t u=>if k=8 then parT t.tg 1 t.told++[32,38,32]++parT u.tg 2 u.told else parT t.tg 0 t.told++[32,124,32]++parT u.tg 1 u.told
def zDq (s:List Nat):RE RT:=
 if 1024<s.length then .error (3,Int.negSucc 0) else match orM s 32 0 0 with
  | .error e=>.error e
  | .ok (i,n,t)=>if sk s i<s.length then .error (5,Int.ofNat (sk s i)) else if 1024<t.told.length then .error (3,Int.negSucc 0) else .ok t
end Go.Proofs.YtdeeimaahdgeaaaGreatDoor.spec
namespace Go.Proofs.YtdeeimaahdgeaaaGreatDoor.spec
open Go Go.Sy
theorem beqN {x y:Nat}:((Int.ofNat x==Int.ofNat y)=true)↔x=y:=by
 rw [beq_iff_eq];exact Int.ofNat_inj
theorem zIG {x y:Nat}:((Int.ofNat x==Int.ofNat y)=false)↔x≠y:=by
 rw [beq_eq_false_iff_ne];exact not_congr Int.ofNat_inj
def zKp (m:Nat) (a:List Nat):Prop:=a.length<=m/\isAt lowB a 0=true/\∀c∈a,namB c=true
def zQi (a:List Nat):Prop:=a≠[]/\a.length<=32/\∀c∈a,wrdB c=true
def zTf (k:Int) (a b:List Nat) (n:Int):Prop:=
 k=1/\a=[]/\b=[]/\n=0\/zKp 24 a/\a≠[97,110,121]/\((k=2\/k=3)/\zQi b/\n=0\/(k=4\/k=5)/\b=[]/\0<=n/\n<=999999999999\/k=6/\b=[]/\n=0)
def RT.wf:RT->Prop
 | .leaf k a b n=>zTf k a b n
 | .not t=>t.wf
 | .two k t u=>(k=8\/k=9)/\t.wf/\u.wf
def RdOK (s:List Nat) (next:Rd):Prop:=∀i n f e t,i<=s.length->n<=64->next i n=.ok (f,e,t)->i<f/\f<=s.length/\e=n+t.size/\e<=64/\t.wf
theorem zC9 {s:List Nat} {i c:Nat} (h:s[i]? = some c):i<s.length:=(QD.1 h).1
theorem zCZ {s:List Nat} {i k:Nat} (h:i+k<=s.length):(cutS s i (i+k)).length=k:=by
 unfold cutS;rw [Qr,Qm];omega
theorem zOm {s:List Nat} {i k j:Nat} (h:i+k<=s.length) (e:j<k):(cutS s i (i+k))[j]? = s[i+j]?:=by
 unfold cutS;rw [List.getElem?_drop,List.getElem?_take_of_lt (by omega)]
theorem zL1 {f:Nat->Bool} {s:List Nat} {i k j:Nat} (h:i+k<=s.length) (e:j<k):isAt f (cutS s i (i+k)) j=isAt f s (i+j):=by
 unfold isAt;rw [zOm h e]
theorem zHv {f:Nat->Bool} {s:List Nat} {i k:Nat} (h:i+k<=s.length) (q:k<=rn f s i):∀c∈cutS s i (i+k),f c=true:=by
 intro c hc;obtain ⟨j,p⟩:=List.getElem?_of_mem hc;have g:j<k:=by have:=zC9 p;rwa [zCZ h] at this
 have e:=zHY (f:=f) (s:=s) j i (by omega)
 rw [←zL1 h g] at e;unfold isAt at e;rw [p] at e;exact e
theorem zRo:∀(l:List Nat) (x b:Nat),(∀c∈l,digB c=true)->x<b->l.foldl (λ x c=>10*x+(c-48)) x<b*10 ^ l.length
 | [],x,b,_,h=>by simpa using h
 | c::r,x,b,h,e=>by
  have hc:digB c=true:=h c (.head _);unfold digB at hc;have hc:=QO hc;have:=zRo r (10*x+(c-48)) (b*10) (λ c hc=>h c (.tail _ hc)) (by omega)
  show r.foldl _ (10*x+(c-48))<_
  rw [QK,Nat.pow_succ]
  calc _<b*10*10 ^ r.length:=this
   _=b*(10 ^ r.length*10):=by rw [Nat.mul_assoc,Nat.mul_comm 10]
theorem zOn {l:List Nat} (h:∀c∈l,digB c=true) (f:l.length<=12):numV l<=999999999999:=by
 have e:=zRo l 0 1 h (by omega)
 have g:10 ^ l.length<=10 ^ 12:=Nat.pow_le_pow_right (by omega) f
 have j:(10:Nat) ^ 12=1000000000000:=by decide
 have e:numV l<1*10 ^ l.length:=e;omega
theorem zTg {s:List Nat} {i j:Nat} {v:List Nat} (p:i<=s.length) (h:zL0 s i=.ok (j,v)):i<j/\j<=s.length/\zQi v:=by
 unfold zL0 at h;split at h
 ·cases h
 ·rename_i g;split at h
  ·cases h
  ·rename_i q;cases h;have f:=zDR wrdB s (sk s i) (zAD p);have w:=zJP s i;refine ⟨by omega,f,λ e=>?_,?_,zHv f (QB _)⟩
   ·have:=zCZ f;rw [e] at this;exact g this.symm
   ·rw [zCZ f];omega
theorem zSa {s:List Nat} {i j:Nat} {x:Int} (f:i<=s.length) (h:zKn s i=.ok (j,x)):i<j/\j<=s.length/\0<=x/\x<=999999999999:=by
 unfold zKn at h;split at h
 ·cases h
 ·split at h
  ·cases h
  ·rename_i p;cases h;have g:=zDR digB s (sk s i) (zAD f);have v:=zJP s i;have e:sk s i+min 12 (rn digB s (sk s i))<=s.length:=by omega
   have q:=zOn (zHv e (Nat.min_le_right _ _)) (by rw [zCZ e];exact Nat.min_le_left _ _)
   refine ⟨by omega,e,Qa _,?_⟩
   rw [qr];omega
theorem zQj {s:List Nat} {i n e n':Nat} {k:Int} {a:List Nat} {t:RT} (g:k=2\/k=3) (f:zKp 24 a/\a≠[97,110,121]) (z:i<=s.length) (h:zIE s i n k a=.ok (e,n',t)):i<e/\e<=s.length/\n'=n+t.size/\t.wf:=by
 unfold zIE at h;split at h
 ·cases h
 ·rename_i j v p;cases h;obtain ⟨w,q,y⟩:=zTg z p;exact ⟨w,q,rfl,.inr ⟨f.1,f.2,.inl ⟨g,y,rfl⟩⟩⟩
theorem zQk {s:List Nat} {i n e n':Nat} {k:Int} {a:List Nat} {t:RT} (g:k=4\/k=5) (f:zKp 24 a/\a≠[97,110,121]) (z:i<=s.length) (h:zIF s i n k a=.ok (e,n',t)):i<e/\e<=s.length/\n'=n+t.size/\t.wf:=by
 unfold zIF at h;split at h
 ·cases h
 ·rename_i j v p;cases h;obtain ⟨w,q,y⟩:=zSa z p;exact ⟨w,q,rfl,.inr ⟨f.1,f.2,.inr (.inl ⟨g,rfl,y⟩)⟩⟩
theorem zUc {s:List Nat} {i n g n':Nat} {a:List Nat} {t:RT} (f:zKp 24 a/\a≠[97,110,121]) (j:i<=s.length) (h:zDS s i n a=.ok (g,n',t)):i<=g/\g<=s.length/\n'=n+t.size/\t.wf:=by
 unfold zDS at h;have lt:∀{a b c:Nat} {p:Prop},a+b<c/\p->a<=c/\p:=λ h=>⟨by omega,h.2⟩
 split at h
 ·rename_i e;exact lt (zQj (.inl rfl) f (zC9 e) h)
 split at h
 ·rename_i e;exact lt (zQj (.inr rfl) f (zC9 e.2) h)
 split at h
 ·rename_i e;exact lt (zQk (.inl rfl) f (zC9 e.2) h)
 split at h
 ·rename_i e;exact lt (zQk (.inr rfl) f (zC9 e.2) h)
 split at h
 ·cases h
 ·cases h;exact ⟨QB _,j,rfl,.inr ⟨f.1,f.2,.inr (.inr ⟨rfl,rfl,rfl⟩)⟩⟩
theorem zO2 {c:Nat} (h:lowB c=true):namB c=true:=by unfold namB;rw [h];rfl
theorem zQl (s:List Nat):RdOK s (zC8 s):=by
 intro i n I A t v F h;unfold zC8 at h;split at h
 ·cases h
 rename_i g;have g:isAt lowB s i=true:=by simpa using g
 have p:=zHu g;split at h
 ·cases h
 split at h
 ·cases h
 rename_i B E;have D:1<=rn namB s i:=by
  rw [zFD (f:=namB) (s:=s) (i:=i)]
  ·omega
  ·unfold isAt at g ⊢;split at g
   ·exact zO2 g
   ·cases g
 have z:=zDR namB s i v;have e:i+min 24 (rn namB s i)<=s.length:=by omega
 split at h
 ·rename_i j;cases h;exact ⟨by omega,e,rfl,by omega,.inl ⟨rfl,rfl,rfl,rfl⟩⟩
 ·rename_i j;have y:zKp 24 (cutS s i (i+min 24 (rn namB s i))):=by
   refine ⟨by rw [zCZ e];omega,?_,zHv e (Nat.min_le_right _ _)⟩
   rw [zL1 e (by omega)]
   exact g
  obtain ⟨C,w,q,h8⟩:=zUc ⟨y,j⟩ (zAD e) h;have:=zJP s (i+min 24 (rn namB s i));have H:t.size=1:=by
   cases t with
   | leaf=>rfl
   | _=>
    exfalso
    unfold zDS zIE zIF at h
    repeat' split at h
    all_goals cases h
  refine ⟨by omega,w,q,by omega,h8⟩
theorem zUd {s:List Nat} {next:Rd} {B:Nat} {k:Int} (H:RdOK s next) (w:k=8\/k=9):∀(m i n:Nat) (t:RT) (f n':Nat) (e:RT),i<=s.length->n<=64->t.wf->zGe next s B k m i n t=.ok (f,n',e)->i<=f/\f<=s.length/\n'+t.size=n+e.size/\n'<=64/\e.wf:=by
 intro m
 induction m with
 | zero=>
  intro i n t f n' e p q g h;cases h;exact ⟨QB _,p,rfl,q,g⟩
 | succ m E=>
  intro i n t f n' e p q g h;rw [zGe] at h;split at h
  ·rename_i hc;split at h
   ·cases h
   ·split at h
    ·cases h
    ·rename_i i1 F u C;have hc:=zC9 hc;obtain ⟨I,v,J,y,A⟩:=H _ _ _ _ _ (by omega) (by omega) C
     obtain ⟨K,z,h8,D,j⟩:=E i1 F (.two k t u) f n' e v y ⟨w,g,A⟩ h;have:=zJP s i;refine ⟨by omega,z,?_,D,j⟩
     have:(RT.two k t u).size=t.size+u.size+1:=rfl;omega
  ·cases h;exact ⟨zJP s i,zAD p,rfl,q,g⟩
theorem zJQ {s:List Nat} {next:Rd} {y:Nat} {k:Int} (f:RdOK s next) (p:k=8\/k=9):RdOK s (zDT next s y k):=by
 intro i n E g t z B h;unfold zDT at h;split at h
 ·cases h
 ·rename_i i1 D u A;obtain ⟨F,j,H,q,w⟩:=f _ _ _ _ _ z B A;obtain ⟨I,v,h8,C,e⟩:=zUd f p 65 i1 D u E g t j q w h;exact ⟨by omega,v,by omega,C,e⟩
theorem zHw (s:List Nat):∀g,RdOK s (oneM s g):=by
 intro g
 induction g with
 | zero=>
  intro i n D B t v f h;rw [oneM] at h;split at h
  ·cases h
  ·have:=zJP s i;obtain ⟨p,e⟩:=zQl s _ _ _ _ _ (zAD v) f h;exact ⟨by omega,e⟩
 | succ g A=>
  intro i n D B t v f h;have:=zJP s i;rw [oneM] at h;split at h
  ·rename_i hc;have hc:=zC9 hc;split at h
   ·cases h
   ·unfold notM at h;split at h
    ·cases h
    ·rename_i i1 C u w;cases h;obtain ⟨p,e,y,j,q⟩:=A _ _ _ _ _ (by omega) (by omega) w
     have:(RT.not u).size=u.size+1:=rfl;exact ⟨by omega,e,by omega,j,q⟩
  split at h
  ·rename_i hc;have hc:=zC9 hc;unfold zKo at h;split at h
   ·cases h
   ·rename_i i1 C u w;split at h
    ·rename_i z;have z:=zC9 z;cases h;obtain ⟨p,e,y,j,q⟩:=zJQ (zJQ A (.inl rfl)) (.inr rfl) _ _ _ _ _ (by omega) f w
     have:=zJP s i1;exact ⟨by omega,by omega,y,j,q⟩
    ·cases h
  ·obtain ⟨p,e⟩:=zQl s _ _ _ _ _ (zAD v) f h;exact ⟨by omega,e⟩
theorem zKq (s:List Nat) (g:Nat):RdOK s (andM s g):=zJQ (zHw s g) (.inl rfl)
theorem zL2 (s:List Nat) (g:Nat):RdOK s (orM s g):=zJQ (zKq s g) (.inr rfl)
theorem zHZ {s:List Nat} {t:RT} (h:zDq s=.ok t):t.wf/\t.size<=64/\t.told.length<=1024:=by
 unfold zDq at h;split at h
 ·cases h
 split at h
 ·cases h
 rename_i i n u f;split at h
 ·cases h
 split at h
 ·cases h
 cases h;obtain ⟨_,_,j,g,e⟩:=zL2 s 32 _ _ _ _ _ (QR _) (by omega) f
 exact ⟨e,by omega,by omega⟩
end Go.Proofs.YtdeeimaahdgeaaaGreatDoor.spec
namespace Go.Proofs.YtdeeimaahdgeaaaGreatDoor.spec
open Go Go.Sy
variable [MX]
structure FL where
 e:Int
 f:Int
 b:Bool
def FL.fail (x:FL) (e f:Int):FL:=if x.b=true then x else ⟨e,f,true⟩
theorem FL.ud (x:FL) (e f:Int):(x.fail e f).b=true:=by unfold FL.fail;split <;> simp_all
theorem FL.qH {x:FL} (h:x.b=true) (e f:Int):x.fail e f=x:=if_pos h
theorem FL.qt {x:FL} (h:x.b=false) (e f:Int):x.fail e f=⟨e,f,true⟩:=if_neg (by rw [h];decide)
abbrev outB (v:AV) (s:List Nat) (i:Int) (x:FL) (n:Int) (l:List AV):AV×Heap×Vecs:=(v,[(0,HO.cells false [.str s,.int .i64 i,AV.sym 0,.int .i64 x.e,.int .i64 x.f,.bool x.b,.int .i64 n])],[(0,VI.vec 6 l)])
section
variable {β:Type} {wk:Bool} {P:β->Prop} {o:Option (AV×Heap×Vecs)} {s:List Nat} {i:Int} {x:FL} {n:Int} {l:List AV}
theorem qdU {f:List Nat->Int->Int->Int->Bool->Int->List AV->Option β} (h:o=some (outB (.qf []) s i x n l)) (k:Wp (f s i x.e x.f x.b n l) P):Wp (dD wk [D.v (K.qf 0),D.hc 0 false 7,D.v K.s,D.v (K.i IntKind.i64),D.v (K.c (AV.sym 0)),D.v (K.i IntKind.i64),D.v (K.i IntKind.i64),D.v K.b,D.v (K.i IntKind.i64),D.vec 0 6] o f) P:=by
 subst h;exact k
theorem qdI {y:Int} {f:Int->List Nat->Int->Int->Int->Bool->Int->List AV->Option β} (h:o=some (outB (.int .i64 y) s i x n l)) (k:Wp (f y s i x.e x.f x.b n l) P):Wp (dD wk [D.v (K.i IntKind.i64),D.hc 0 false 7,D.v K.s,D.v (K.i IntKind.i64),D.v (K.c (AV.sym 0)),D.v (K.i IntKind.i64),D.v (K.i IntKind.i64),D.v K.b,D.v (K.i IntKind.i64),D.vec 0 6] o f) P:=by
 subst h;exact k
theorem qd8 {y:Int} {f:Int->List Nat->Int->Int->Int->Bool->Int->List AV->Option β} (h:o=some (outB (.int .u8 y) s i x n l)) (k:Wp (f y s i x.e x.f x.b n l) P):Wp (dD wk [D.v (K.i IntKind.u8),D.hc 0 false 7,D.v K.s,D.v (K.i IntKind.i64),D.v (K.c (AV.sym 0)),D.v (K.i IntKind.i64),D.v (K.i IntKind.i64),D.v K.b,D.v (K.i IntKind.i64),D.vec 0 6] o f) P:=by
 subst h;exact k
theorem qdS {y:List Nat} {f:List Nat->List Nat->Int->Int->Int->Bool->Int->List AV->Option β} (h:o=some (outB (.str y) s i x n l)) (k:Wp (f y s i x.e x.f x.b n l) P):Wp (dD wk [D.v K.s,D.hc 0 false 7,D.v K.s,D.v (K.i IntKind.i64),D.v (K.c (AV.sym 0)),D.v (K.i IntKind.i64),D.v (K.i IntKind.i64),D.v K.b,D.v (K.i IntKind.i64),D.vec 0 6] o f) P:=by
 subst h;exact k
end
theorem zJc (c:Nat):zAc (Int.ofNat c)=some (.bool (wrdB c)):=by
 refine zi ?_
 rw [zG5]
 repeat' first | refine Wp.ite (λ _=>?_) (λ _=>?_) | refine Wp.if (λ _=>?_) (λ _=>?_) | refine Wp.mk ?_
 all_goals simp only [qr,ge_iff_le,beq_iff_eq,beq_eq_false_iff_ne,ne_eq] at *
 all_goals refine congrArg AV.bool ?_
 all_goals unfold wrdB
 all_goals first
  | exact (QL (by omega)).symm
  | (rw [Bool.eq_iff_iff,decide_eq_true_iff];simp only [beq_iff_eq];omega)
section
variable {s:List Nat} (hs:s.length<=65536) (x:FL) (n:Int) (l:List AV)
include hs
theorem zNe (i:Nat) (q:i<=s.length):z6 s (Int.ofNat i) x.e x.f x.b n l=some (outB (.qf []) s (Int.ofNat (sk s i)) x n l):=by
 have loop:∀(m i:Nat),i<=s.length->s.length-i<m->zAv m s (Int.ofNat i) x.e x.f x.b n l=some (outB (.qf []) s (Int.ofNat (sk s i)) x n l):=by
  intro m
  induction m with
  | zero=>intro i _ h;omega
  | succ m v=>
   intro i q w;refine zi ?_
   rw [zE2];refine Wp.lt (λ g=>Wp.bd (R:=λ c=>c=s[i]) ⟨_,zA4 g,rfl⟩ λ c hc=>Wp.if (λ h=>?_) λ h=>?_) λ p=>Wp.mk ?_
   ·subst hc;have j:isAt (·==32) s i=true:=by rw [zAX g];exact beq_iff_eq.2 ((beqN (y:=32)).1 h)
    rw [zE1,zf (by omega),v (i+1) g (by omega)]
    refine Wp.mk ?_
    unfold sk;rw [zFD j,show i+1+rn (·==32) s (i+1)=i+(rn (·==32) s (i+1)+1) by omega]
   ·subst hc;have j:isAt (·==32) s i=false:=by rw [zAX g];exact beq_eq_false_iff_ne.2 ((zIG (y:=32)).1 h)
    refine Wp.mk ?_
    rw [zID j]
   ·rw [zID (zCb p)]
 rw [zFN];exact loop FUEL i q (by have:=zx (n:=65537) (by omega);omega)
def pk (s:List Nat) (i:Nat):Nat:=(s[sk s i]?).getD 0
theorem zJd (i:Nat) (j:i<=s.length):zr s (Int.ofNat i) x.e x.f x.b n l=some (outB (.int .u8 (Int.ofNat (pk s i))) s (Int.ofNat (sk s i)) x n l):=by
 refine zi ?_
 rw [zF6];refine qdU (zNe hs x n l i j) (Wp.lt (λ g=>Wp.bd (R:=λ c=>c=s[sk s i]) ⟨_,zA4 g,rfl⟩ λ c hc=>Wp.mk ?_) λ h=>Wp.mk ?_)
 ·subst hc;unfold pk;rw [QE g];rfl
 ·unfold pk;rw [List.getElem?_eq_none h];rfl
omit hs in
theorem zEK (e f:Int) (i:Int):zj e f s i x.e x.f x.b n l=some (outB (.qf []) s i (x.fail e f) n l):=by
 refine zi ?_
 rw [zF7];refine Wp.if (λ h=>Wp.mk ?_) λ h=>Wp.mk ?_
 ·rw [FL.qt (by simpa using h)]
 ·rw [FL.qH (by simpa using h)]
omit hs in
theorem zMr (f:Int) (i:Int):zu f s i x.e x.f x.b n l=some (outB (.qf []) s i (if 64<wrapx .i64 (n+1) then x.fail 3 f else x) (wrapx .i64 (n+1)) l):=by
 refine zi ?_
 rw [zFX];refine Wp.ite (λ h=>qdU (zEK x (wrapx .i64 (n+1)) l _ f i) (Wp.mk ?_)) λ h=>Wp.mk ?_
 ·rw [if_pos h];rfl
 ·rw [if_neg h]
omit hs in
theorem zPu (k:Int) (a b:List Nat) (m p q:Int) (i:Int) (j:x.b=false->l.length<=64):zt k a b m p q s i x.e x.f x.b n l=some (outB (.int .i64 (wrapx .i64 (Int.ofNat (if x.b=true then l else l++[nd6 k a b m p q]).length-1))) s i x n (if x.b=true then l else l++[nd6 k a b m p q])):=by
 refine zi ?_
 rw [zGn];refine Wp.if (λ h=>?_) λ h=>?_
 ·have g:x.b=false:=by simpa using h
  have:=j g;refine Wp.gd ?_ ?_
  ·show (l.length+1)*64<=zg/\l.length+1<=zg
   unfold zg;omega
  ·rw [zCS];refine Wp.mk ?_
   rw [if_neg (by rw [g];decide)]
   rfl
 ·have g:x.b=true:=by simpa using h
  rw [zCS];refine Wp.mk ?_
  rw [if_pos g]
theorem zUB (i:Nat) (z:i<=s.length):zBa s (Int.ofNat i) x.e x.f x.b n l=some (outB (.str (cutS s i (i+rn wrdB s i))) s (Int.ofNat (i+rn wrdB s i)) x n l):=by
 have loop:∀(m j:Nat),i<=j->j<=s.length->s.length-j<m->zAS m (Int.ofNat i) s (Int.ofNat j) x.e x.f x.b n l=some (outB (.str (cutS s i (j+rn wrdB s j))) s (Int.ofNat (j+rn wrdB s j)) x n l):=by
  intro m
  induction m with
  | zero=>intro j _ _ h;omega
  | succ m B=>
   intro j w A C;refine zi ?_
   have p:isAt wrdB s j=false->Wp (gd (decide (0<=Int.ofNat i/\Int.ofNat i<=Int.ofNat j/\Int.ofNat j<=Int.ofNat s.length)) (some (AV.str (List.drop (Int.toNat (Int.ofNat i)) (List.take (Int.toNat (Int.ofNat j)) s)),[(0,HO.cells false [.str s,.int .i64 (Int.ofNat j),AV.sym 0,.int .i64 x.e,.int .i64 x.f,.bool x.b,.int .i64 n])],[(0,VI.vec 6 l)]))) λ v=>v=outB (.str (cutS s i (j+rn wrdB s j))) s (Int.ofNat (j+rn wrdB s j)) x n l:=λ h=>by
    refine Wp.gd ⟨Qa _,Qp.2 w,Qp.2 A⟩ (Wp.mk ?_)
    rw [zHt h];rfl
   rw [zFP];refine Wp.lt (λ g=>Wp.bd (R:=λ c=>c=s[j]) ⟨_,zA4 g,rfl⟩ λ c hc=>qk_b (zJc c) (Wp.if (λ h=>?_) λ h=>?_)) λ q=>p (zCb q)
   ·subst hc;have y:isAt wrdB s j=true:=by rw [zAX g];exact h
    rw [zFO,zf (by omega),B (j+1) (by omega) g (by omega)]
    refine Wp.mk ?_
    rw [zFD y,show j+1+rn wrdB s (j+1)=j+(rn wrdB s (j+1)+1) by omega]
   ·subst hc;exact p (by rw [zAX g];exact h)
 rw [zGo];exact loop FUEL i (QB _) z (by have:=zx (n:=65537) (by omega);omega)
def valF (x:FL) (s:List Nat) (j:Nat):FL:=if 32<rn wrdB s j then (if rn wrdB s j=0 then x.fail 5 (Int.ofNat j) else x).fail 5 (Int.ofNat (j+32)) else if rn wrdB s j=0 then x.fail 5 (Int.ofNat j) else x
theorem zVD (i:Nat) (w:i<=s.length):zAi s (Int.ofNat i) x.e x.f x.b n l=some (outB (.str (cutS s (sk s i) (sk s i+rn wrdB s (sk s i)))) s (Int.ofNat (sk s i+rn wrdB s (sk s i))) (valF x s (sk s i)) n l):=by
 refine zi ?_
 have j:=zAD w;have q:=zDR wrdB s (sk s i) j;rw [zFY];refine qdU (zNe hs x n l i w) (qdS (zUB hs x n l (sk s i) j) ?_)
 have p:∀y:FL,Wp (zAA (Int.ofNat (sk s i)) (cutS s (sk s i) (sk s i+rn wrdB s (sk s i))) s (Int.ofNat (sk s i+rn wrdB s (sk s i))) y.e y.f y.b n l) λ v=>v=outB (.str (cutS s (sk s i) (sk s i+rn wrdB s (sk s i)))) s (Int.ofNat (sk s i+rn wrdB s (sk s i))) (if 32<rn wrdB s (sk s i) then y.fail 5 (Int.ofNat (sk s i+32)) else y) n l:=λ y=>by
  rw [zE9,zCZ q];refine Wp.ite (λ h=>?_) λ h=>Wp.mk ?_
  ·have h:32<rn wrdB s (sk s i):=by rw [qr] at h;omega
   rw [zT (by rw [qr];omega) (by rw [qr];omega)]
   refine qdU (zEK y n l 5 _ _) (Wp.mk ?_)
   rw [if_pos h];rfl
  ·rw [if_neg (by rw [qr] at h;omega)]
 rw [zCZ q];refine Wp.if (λ h=>qdU (zEK x n l 5 _ _) ((p _).mono λ v g=>?_)) λ h=>(p _).mono λ v g=>?_
 ·have h:rn wrdB s (sk s i)=0:=by simpa [qr] using h
  rw [g];unfold valF;rw [if_pos h]
 ·have h:¬rn wrdB s (sk s i)=0:=by simpa [qr] using h
  rw [g];unfold valF;rw [if_neg h]
end
end Go.Proofs.YtdeeimaahdgeaaaGreatDoor.spec
namespace Go.Proofs.YtdeeimaahdgeaaaGreatDoor.spec
open Go Go.Sy
variable [MX]
theorem zRp {f g:Nat->Bool} (h:∀c,f c=true->g c=true) (s:List Nat):∀(m i:Nat),s.length-i<=m->rn f s i<=rn g s i:=by
 intro m
 induction m with
 | zero=>intro i p;rw [zHt (zCb (by omega))];omega
 | succ m e=>
  intro i p;by_cases hc:isAt f s i=true
  ·have j:isAt g s i=true:=by
    unfold isAt at hc ⊢;split at hc
    ·exact h _ hc
    ·cases hc
   rw [zFD hc,zFD j];have:=e (i+1) (by have:=zHu hc;omega)
   omega
  ·rw [zHt (by simpa using hc)];omega
theorem zRq (c:Nat) (h:digB c=true):wrdB c=true:=by
 unfold digB at h;unfold wrdB;have:=QO h;exact QL (by omega)
theorem zOo:∀(l:List Nat) (x:Nat),x<=l.foldl (λ x c=>10*x+(c-48)) x
 | [],x=>QB _
 | c::r,x=>by
  have:=zOo r (10*x+(c-48));show x<=r.foldl _ (10*x+(c-48))
  omega
theorem zWv {c:Nat} (h:digB c=true):wrapx .u8 (Int.ofNat c-48)=((c-48:Nat):Int):=by
 have h:=QO h;have:Int.ofNat c-48=Int.ofNat (c-48):=by rw [qr,qr];omega
 rw [this];have e:c-48<10:=by omega
 generalize c-48=d at e
 match d,e with
 | 0,_ | 1,_ | 2,_ | 3,_ | 4,_ | 5,_ | 6,_ | 7,_ | 8,_ | 9,_=>rfl
theorem zSb (w:List Nat) (y:w.length<=12) (p:∀c∈w,digB c=true):zDb w=some (.qf [.int .i64 (Int.ofNat (numV w)),.bool (decide (0<w.length))]):=by
 have F:=zOn p y;have loop:∀(m i x:Nat),i<=w.length->w.length-i<m->(w.drop i).foldl (λ x c=>10*x+(c-48)) x=numV w->zBq m w (Int.ofNat x) (Int.ofNat i)=some (.qf [.int .i64 (Int.ofNat (numV w)),.bool (decide (0<w.length))]):=by
  intro m
  induction m with
  | zero=>intro i x _ h;omega
  | succ m C=>
   intro i x H I f;refine zi ?_
   rw [zGG];refine Wp.lt (λ e=>?_) λ j=>?_
   ·have hc:=p _ (Qn e);have v:=QO hc;rw [Qg e] at f;have f:(w.drop (i+1)).foldl (λ x c=>10*x+(c-48)) (10*x+(w[i]-48))=numV w:=f
    have E:=zOo (w.drop (i+1)) (10*x+(w[i]-48));refine Wp.bd (R:=λ c=>c=w[i]) ⟨_,zA4 e,rfl⟩ λ c h=>Wp.ite (λ g=>?_) λ _=>Wp.bd (R:=λ c=>c=w[i]) ⟨_,zA4 e,rfl⟩ λ c2 q=>Wp.ite (λ g=>?_) λ _=>?_
    ·subst h;rw [qr] at g;omega
    ·subst q;rw [qr] at g;omega
    ·rw [zGF];refine Wp.ite (λ _=>Wp.bd (R:=λ c=>c=w[i]) ⟨_,zA4 e,rfl⟩ λ c3 z=>?_) λ g=>?_
     ·subst z;rw [zGE,zf (by omega),zWv hc]
      generalize w[i]=c at *;have A:wrapx .i64 (Int.ofNat x*10)=((10*x:Nat):Int):=by rw [qr,zT (by omega) (by omega)];omega
      have B:wrapx .i64 (((c-48:Nat):Int))=((c-48:Nat):Int):=zT (by omega) (by omega)
      have D:wrapx .i64 (((10*x:Nat):Int)+((c-48:Nat):Int))=Int.ofNat (10*x+(c-48)):=by rw [zT (by omega) (by omega),qr];omega
      rw [A,B,D];exact ⟨_,C (i+1) _ e (by omega) f,rfl⟩
     ·rw [qr] at g;omega
   ·rw [Qo j] at f;have f:x=numV w:=f;subst f;refine Wp.ite (λ h=>Wp.mk ?_) λ h=>Wp.mk ?_
    ·rw [qr] at h;rw [QL (show Int.ofNat w.length<=12 by rw [qr];omega),QL (show 0<w.length by omega)]
    ·rw [qr] at h;rw [QN (show ¬0<w.length by omega)]
 rw [zHA];exact loop FUEL 0 0 (QR _) (zx (by omega)) rfl
def zAp (m:Nat) (a:List Nat):Bool:=decide (a.length<=m)&&(isAt lowB a 0&&a.all namB)
theorem zHx (a:List Nat) (m:Nat) (z:a.length<=2000000):zBt a (Int.ofNat m)=some (.bool (zAp m a)):=by
 have loop:∀(n i:Nat),i<=a.length->a.length-i<n->zBL n a (Int.ofNat i)=some (.bool ((a.drop i).all namB)):=by
  intro n
  induction n with
  | zero=>intro i _ h;omega
  | succ n D=>
   intro i E F;refine zi ?_
   rw [zHd];refine Wp.lt (λ g=>Wp.bd (R:=λ c=>c=a[i]) ⟨_,zA4 g,rfl⟩ λ c hc=>?_) λ w=>Wp.mk ?_
   ·subst hc;have go:∀b:Bool,b=!namB a[i]->Wp (zI n a (Int.ofNat i) b) λ v=>v=.bool ((a.drop i).all namB):=λ b p=>by
     rw [zHc,Qg g,QX];refine Wp.if (λ h=>Wp.mk ?_) λ h=>?_
     ·have:namB a[i]=false:=by rw [h] at p;simpa using p.symm
      rw [this];rfl
     ·have:namB a[i]=true:=by rw [h] at p;simpa using p.symm
      rw [zHb,zf (by omega),D (i+1) g (by omega),this]
      exact Wp.mk rfl
    generalize a[i]=c at go;have e:(decide (Int.ofNat c>=97),decide (Int.ofNat c<=122))=(decide (97<=c),decide (c<=122)):=by
     simp only [Prod.mk.injEq,decide_eq_decide,qr];omega
    repeat' first | refine Wp.ite (λ _=>?_) (λ _=>?_) | refine go _ ?_
    all_goals simp only [qr,ge_iff_le,Bool.not_eq_eq_eq_not,Bool.not_not] at *
    all_goals unfold namB lowB digB
    all_goals rw [Bool.eq_iff_iff]
    all_goals simp
    all_goals omega
   ·rw [Qo w];rfl
 have j:∀b:Bool,(b=true->zAp m a=false)->(b=false->zAp m a=a.all namB)->zAn a b=some (.bool (zAp m a)):=λ b q y=>by
  refine zi ?_
  rw [zHf];refine Wp.if (λ h=>Wp.mk (by rw [q h])) λ h=>?_
  rw [zHe,show Int.ofNat 0=Int.ofNat 0 from rfl,loop FUEL 0 (QR _) (zx (by omega))]
  refine Wp.mk ?_
  rw [y h];rfl
 refine zi ?_
 rw [zIb];refine Wp.ite (λ h=>⟨_,j _ (λ _=>?_) (λ h=>by cases h),rfl⟩) λ B=>Wp.ite (λ h=>⟨_,j _ (λ _=>?_) (λ h=>by cases h),rfl⟩) λ q=>?_
 ·unfold zAp;rw [zCb (by rw [qr] at h;omega)];simp
 ·unfold zAp;rw [QN (by rw [qr] at h;simp at h;omega)];simp
 ·rw [qr] at B q;have z:0<a.length:=by omega
  have C:ixN a 0=some a[0]:=zA4 z;have A:decide (a.length<=m)=true:=QL (by simp at q;omega)
  have f:isAt lowB a 0=lowB a[0]:=zAX z;rw [C];refine Wp.ite (λ h=>⟨_,j _ (λ _=>?_) (λ h=>by cases h),rfl⟩) λ y=>⟨_,j _ (λ h=>?_) (λ h=>?_),rfl⟩
  ·unfold zAp;rw [A,f];unfold lowB;rw [QN (by rw [qr] at h;omega)];simp
  ·have h:=QO h;unfold zAp;rw [A,f];unfold lowB;rw [QN (by rw [qr] at h;omega)];simp
  ·have h:=Qq h;unfold zAp;rw [A,f];unfold lowB;rw [QL (by rw [qr] at h y;omega)];simp
section
variable {s:List Nat} (hs:s.length<=65536) (x:FL) (n:Int) (l:List AV)
include hs
def kdig (s:List Nat) (j:Nat):Nat:=min 12 (rn digB s j)
def numF (x:FL) (s:List Nat) (j:Nat):FL:=if isAt wrdB s (j+kdig s j)=true then x.fail 5 (Int.ofNat (j+kdig s j)) else if rn digB s j=0 then x.fail 5 (Int.ofNat j) else x
def numR (s:List Nat) (j:Nat):Int:=if isAt wrdB s (j+kdig s j)=true then 0 else Int.ofNat (numV (cutS s j (j+kdig s j)))
theorem zUe (i:Nat) (X:i<=s.length):z7 s (Int.ofNat i) x.e x.f x.b n l=some (outB (.int .i64 (numR s (sk s i))) s (Int.ofNat (sk s i+rn wrdB s (sk s i))) (numF x s (sk s i)) n l):=by
 refine zi ?_
 have I:=zAD X;rw [zFQ];refine qdU (zNe hs x n l i X) (qdS (zUB hs x n l (sk s i) I) ?_)
 generalize sk s i=j at I;have E:=zDR wrdB s j I;have T:=zRp zRq s _ j (QB _);have M:kdig s j<=rn digB s j:=Nat.min_le_right _ _;have p:isAt wrdB s (j+kdig s j)=decide (kdig s j<rn wrdB s j):=by
  by_cases h:kdig s j<rn wrdB s j
  ·rw [QL h];exact zHY _ _ h
  ·rw [QN h,show kdig s j=rn wrdB s j by omega]
   exact zJb wrdB s _ j (QB _)
 have hw:∀t,t<rn wrdB s j->(cutS s j (j+rn wrdB s j))[t]? = s[j+t]?:=λ t V=>zOm E V
 have B:(cutS s j (j+rn wrdB s j)).length=rn wrdB s j:=zCZ E;have U:∀y:FL,kdig s j=rn wrdB s j->Wp (zAw (cutS s j (j+rn wrdB s j)) s (Int.ofNat (j+rn wrdB s j)) y.e y.f y.b n l) λ v=>v=outB (.int .i64 (numR s j)) s (Int.ofNat (j+rn wrdB s j)) y n l:=λ y O=>by
  rw [zE4];have hd:∀c∈cutS s j (j+rn wrdB s j),digB c=true:=by rw [←O] at E ⊢;exact zHv E M
  refine zVC (zSb _ (by rw [B,←O];exact Nat.min_le_left _ _) hd) (Wp.mk ?_)
  unfold numR;rw [p,if_neg (by rw [QN (by omega)];decide),O]
 have loop:∀(m t:Nat),t<=kdig s j->rn wrdB s j-t<m->Wp (zAq m (Int.ofNat j) (cutS s j (j+rn wrdB s j)) (Int.ofNat t) s (Int.ofNat (j+rn wrdB s j)) x.e x.f x.b n l) λ v=>v=outB (.int .i64 (numR s j)) s (Int.ofNat (j+rn wrdB s j)) (numF x s j) n l:=by
  intro m
  induction m with
  | zero=>intro t _ h;omega
  | succ m ih=>
   intro t V hm;rw [zEO,B];refine Wp.lt (λ F=>?_) λ Y=>?_
   ·have Q:ixN (cutS s j (j+rn wrdB s j)) (Int.ofNat t)=s[j+t]?:=(zKl).trans (hw t F);have w:j+t<s.length:=by omega
    have Q:ixN (cutS s j (j+rn wrdB s j)) (Int.ofNat t)=some s[j+t]:=by rw [Q,QE w]
    have S:∀b:Bool,b=decide (t=kdig s j)->Wp (zV m (Int.ofNat j) (cutS s j (j+rn wrdB s j)) (Int.ofNat t) b s (Int.ofNat (j+rn wrdB s j)) x.e x.f x.b n l) λ v=>v=outB (.int .i64 (numR s j)) s (Int.ofNat (j+rn wrdB s j)) (numF x s j) n l:=λ b z=>by
     rw [zE3];refine Wp.if (λ h=>?_) λ h=>?_
     ·have z:t=kdig s j:=by rw [h] at z;exact QO z.symm
      rw [zT (by rw [qr,qr];omega) (by rw [qr,qr];omega)]
      refine qdU (zEK x n l 5 _ _) (Wp.mk ?_)
      have q:isAt wrdB s (j+kdig s j)=true:=by rw [p,QL (by omega)]
      unfold numR numF;rw [if_pos q,if_pos q,z];rfl
     ·have z:¬t=kdig s j:=by rw [h] at z;exact Qq z.symm
      rw [zf (by omega)]
      exact ih (t+1) (by omega) (by omega)
    have g:t<kdig s j->digB s[j+t]=true:=λ h=>by
     have:=zHY (f:=digB) (s:=s) t j (by omega)
     rwa [zAX w] at this
    have D:t=kdig s j->t<12->digB s[j+t]=false:=λ h C=>by
     have H:kdig s j=rn digB s j:=by unfold kdig at h ⊢;omega
     have:=zJb digB s _ j (QB _);rw [←H,←h,zAX w] at this;exact this
    have W:kdig s j<=12:=Nat.min_le_left _ _;rw [Q];generalize s[j+t]=c at g D;have K:digB c=decide (48<=c/\c<=57):=rfl;refine Wp.ite (λ h=>S _ (QL ?_).symm) λ h1=>Wp.ite (λ h=>S _ (QL ?_).symm) λ H=>S _ ?_
    ·by_cases J:t=kdig s j
     ·exact J
     ·have:=QO (g (by omega));rw [qr] at h;omega
    ·by_cases J:t=kdig s j
     ·exact J
     ·have:=QO (g (by omega));rw [qr] at h;omega
    ·have hc:digB c=true:=by rw [K];rw [qr] at h1 H;exact QL (by omega)
     refine decide_eq_decide.2 ?_
     rw [qr];refine ⟨λ h=>by omega,λ h=>?_⟩
     by_cases C:t<12
     ·rw [D h C] at hc;cases hc
     ·omega
   ·have e:kdig s j=rn wrdB s j:=by omega
    have A:isAt wrdB s (j+kdig s j)=false:=by rw [p,QN (by omega)]
    refine Wp.if (λ h=>?_) λ h=>?_
    ·have h:rn wrdB s j=0:=by simpa [qr] using h
     refine qdU (zEK x n l 5 _ _) ((U _ e).mono λ v R=>?_)
     rw [R];unfold numF;rw [if_neg (by rw [A];decide),if_pos (by omega)]
    ·have h:¬rn wrdB s j=0:=by simpa [qr] using h
     refine (U _ e).mono λ v R=>?_
     rw [R];unfold numF;rw [if_neg (by rw [A];decide),if_neg (by unfold kdig at e;omega)]
 exact loop FUEL 0 (QR _) (by have:=zx (n:=65537) (by omega);omega)
def nmE (s:List Nat) (i:Nat):Nat:=if isAt lowB s i=true then i+min 24 (rn namB s i) else i
def nmF (x:FL) (s:List Nat) (i:Nat):FL:=if isAt lowB s i=false\/isAt wrdB s (nmE s i)=true then x.fail 5 (Int.ofNat (nmE s i)) else x
omit hs in
theorem zTh {i:Nat} (e:i<=s.length):i<=nmE s i/\nmE s i<=s.length:=by
 have:=zDR namB s i e;unfold nmE;split <;> omega
theorem zWw (i:Nat) (S:i<=s.length):zCc s (Int.ofNat i) x.e x.f x.b n l=some (outB (.str (cutS s i (nmE s i))) s (Int.ofNat (nmE s i)) (nmF x s i) n l):=by
 refine zi ?_
 have z:=zTh (s:=s) S;have q:∀t,t<s.length->i<=t->zAp 24 (cutS s i (t+1))=decide (t<nmE s i)\/nmE s i<t:=λ t A V=>by
  by_cases D:nmE s i<t
  ·exact .inr D
  refine .inl ?_
  have H:=zDR namB s i S;obtain ⟨k,rfl⟩:∃k,t=i+k:=⟨t-i,by omega⟩
  have J:(cutS s i (i+(k+1))).length=k+1:=zCZ (by omega)
  have U:isAt lowB (cutS s i (i+(k+1))) 0=isAt lowB s i:=zL1 (by omega) (by omega)
  unfold zAp;rw [show i+k+1=i+(k+1) by omega,J,U]
  cases hlow:isAt lowB s i with
  | false=>
   have:nmE s i=i:=by unfold nmE;rw [hlow];rfl
   rw [QN (show ¬i+k<nmE s i by omega)];simp
  | true=>
   have W:nmE s i=i+min 24 (rn namB s i):=by unfold nmE;rw [hlow];rfl
   rw [W] at D ⊢;by_cases M:k<min 24 (rn namB s i)
   ·have w:(cutS s i (i+(k+1))).all namB=true:=QG.2 (zHv (by omega) (by omega))
    rw [w,QL (show k+1<=24 by omega),QL (show i+k<i+min 24 (rn namB s i) by omega)];rfl
   ·rw [QN (show ¬i+k<i+min 24 (rn namB s i) by omega)]
    by_cases I:k+1<=24
    ·have M:k=rn namB s i:=by omega
     have:=zJb namB s _ i (QB _);rw [←M] at this;have w:(cutS s i (i+(k+1))).all namB=false:=by
      rw [List.all_eq_false];refine ⟨s[i+k],QF (i:=k) ?_,?_⟩
      ·rw [zOm (by omega) (by omega),QE A]
      ·rw [zAX A] at this;rw [this];decide
     rw [w];simp
    ·rw [QN I];simp
 rw [zF8];have F:∀y:FL,Wp (gd (decide (0<=Int.ofNat i/\Int.ofNat i<=Int.ofNat (nmE s i)/\Int.ofNat (nmE s i)<=Int.ofNat s.length)) (some (AV.str (List.drop (Int.toNat (Int.ofNat i)) (List.take (Int.toNat (Int.ofNat (nmE s i))) s)),[(0,HO.cells false [.str s,.int .i64 (Int.ofNat (nmE s i)),AV.sym 0,.int .i64 y.e,.int .i64 y.f,.bool y.b,.int .i64 n])],[(0,VI.vec 6 l)]))) λ v=>v=outB (.str (cutS s i (nmE s i))) s (Int.ofNat (nmE s i)) y n l:=λ y=>
  Wp.gd ⟨Qa _,Qp.2 z.1,Qp.2 z.2⟩ (Wp.mk rfl)
 have Q:∀b:Bool,b=decide (isAt lowB s i=false\/isAt wrdB s (nmE s i)=true)->nmF x s i=if b=true then x.fail 5 (Int.ofNat (nmE s i)) else x:=λ b B=>by
  unfold nmF;by_cases h:isAt lowB s i=false\/isAt wrdB s (nmE s i)=true
  ·rw [B,QL h,if_pos h];rfl
  ·rw [B,QN h,if_neg h];rfl
 have T:∀b:Bool,b=decide (isAt lowB s i=false\/isAt wrdB s (nmE s i)=true)->Wp (z3 (Int.ofNat i) b s (Int.ofNat (nmE s i)) x.e x.f x.b n l) λ v=>v=outB (.str (cutS s i (nmE s i))) s (Int.ofNat (nmE s i)) (nmF x s i) n l:=λ b B=>by
  rw [zFp,Q b B];refine Wp.if (λ h=>qdU (zEK x n l 5 _ _) ?_) λ h=>?_
  ·rw [zCJ,if_pos h];exact F _
  ·rw [zCJ,if_neg (by rw [h];decide)];exact F _
 have K:∀b:Bool,b=decide (isAt lowB s i=false\/isAt wrdB s (nmE s i)=true)->Wp (z4 (Int.ofNat i) b s (Int.ofNat (nmE s i)) x.e x.f x.b n l) λ v=>v=outB (.str (cutS s i (nmE s i))) s (Int.ofNat (nmE s i)) (nmF x s i) n l:=λ b B=>by
  rw [zFq,Q b B];refine Wp.if (λ h=>qdU (zEK x n l 5 _ _) ?_) λ h=>?_
  ·rw [zCK,if_pos h];exact F _
  ·rw [zCK,if_neg (by rw [h];decide)];exact F _
 have g:nmE s i=i↔isAt lowB s i=false:=by
  unfold nmE;cases h:isAt lowB s i with
  | false=>simp
  | true=>
   have:rn namB s i=rn namB s (i+1)+1:=zFD (by unfold isAt at h ⊢;split at h;exact zO2 h;cases h)
   simp;omega
 have loop:∀(m t:Nat),i<=t->t<=nmE s i->s.length-t<m->Wp (zAE m (Int.ofNat i) s (Int.ofNat t) x.e x.f x.b n l) λ v=>v=outB (.str (cutS s i (nmE s i))) s (Int.ofNat (nmE s i)) (nmF x s i) n l:=by
  intro m
  induction m with
  | zero=>intro t _ _ h;omega
  | succ m X=>
   intro t O Y hm;rw [zFr];refine Wp.lt (λ j=>?_) λ C=>?_
   ·have E:(List.drop (Int.toNat (Int.ofNat i)) (List.take (Int.toNat (Int.ofNat (t+1))) s))=cutS s i (t+1):=rfl;rw [zf (by omega),E]
    refine Wp.gd ⟨Qa _,Qp.2 (by omega),Qp.2 j⟩ (qk_b (zHx _ 24 ?_) (Wp.if (λ h=>?_) λ h=>?_))
    ·unfold cutS;rw [Qr,Qm];omega
    ·rw [zFo,zf (by omega)]
     refine X (t+1) (by omega) ?_ (by omega)
     rcases q t j O with p | p
     ·rw [h] at p;have:=QO p.symm;omega
     ·omega
    ·have A:t=nmE s i:=by
      rcases q t j O with p | p
      ·rw [h] at p;have:=Qq p.symm;omega
      ·omega
     subst A;refine Wp.if (λ h=>T _ (QL (.inl (g.1 (beqN.1 h)))).symm) λ h=>Wp.lt (λ _=>Wp.bd (R:=λ c=>c=s[nmE s i]) ⟨_,zA4 j,rfl⟩ λ c hc=>qk_b (zJc c) (T _ ?_)) λ C=>absurd j (by omega)
     subst hc;have H:isAt lowB s i=true:=by
      have:=zIG.1 h;cases p:isAt lowB s i with
      | true=>rfl
      | false=>exact absurd (g.2 p) this
     rw [zAX j];cases hw:wrdB s[nmE s i] <;> simp [H]
   ·have A:t=nmE s i:=by omega
    subst A;refine Wp.if (λ h=>K _ (QL (.inl (g.1 (beqN.1 h)))).symm) λ h=>Wp.lt (λ j=>absurd j (by omega)) λ _=>K _ ?_
    have H:isAt lowB s i=true:=by
     have:=zIG.1 h;cases p:isAt lowB s i with
     | true=>rfl
     | false=>exact absurd (g.2 p) this
    rw [zCb C,H];simp
 exact loop FUEL i (QB _) z.1 (by have:=zx (n:=65537) (by omega);omega)
end
end Go.Proofs.YtdeeimaahdgeaaaGreatDoor.spec
namespace Go.Proofs.YtdeeimaahdgeaaaGreatDoor.spec
open Go Go.Sy
variable [MX]
def BadP (s:List Nat) (x:FL) (v:AV×Heap×Vecs):Prop:=∃(y i n:Int) (l:List AV),v=outB (.int .i64 y) s i x n l
def OutP (s:List Nat) (l:List AV) (x:FL):RE (Nat×Nat×RT)->AV×Heap×Vecs->Prop
 | .ok (i,n,t),v=>v=outB (.int .i64 (Int.ofNat (l.length+t.size-1))) s (Int.ofNat i) x (Int.ofNat n) (l++t.fl l.length)
 | .error (e,f),v=>BadP s ⟨e,f,true⟩ v
section
variable {s:List Nat} {x:FL} {l:List AV}
def Res2 (s:List Nat) (l:List AV) (x:FL) (r:RE (Nat×Nat×RT)) (v:AV×Heap×Vecs):Prop:=(x.b=true->BadP s x v)/\(x.b=false->OutP s l x r v)
theorem zUf (h:x.b=true) (j:Nat):valF x s j=x:=by unfold valF;simp only [FL.qH h,ite_self]
theorem zUg (h:x.b=true) (j:Nat):numF x s j=x:=by unfold numF;simp only [FL.qH h,ite_self]
theorem zRr (h:x.b=true) (j:Nat):nmF x s j=x:=by unfold nmF;simp only [FL.qH h,ite_self]
theorem zCD (k:Int) (a b:List Nat) (m p q:Int) (i n:Int) (g:x.b=false->l.length<=64):Wp (zn s i x.e x.f x.b n k a b m p q l) λ v=>(x.b=true->BadP s x v)/\(x.b=false->v=outB (.int .i64 (Int.ofNat l.length)) s i x n (l++[nd6 k a b m p q])):=by
 rw [zFs];refine qdI (zPu x n l k a b m p q i g) (Wp.mk ⟨λ h=>⟨_,_,_,_,rfl⟩,λ h=>?_⟩)
 rw [if_neg (by rw [h];decide),QC]
 have:=g h;have e:wrapx .i64 (Int.ofNat (l.length+[nd6 k a b m p q].length)-1)=Int.ofNat l.length:=zA5 (i:=l.length+1) (by omega) (by omega)
 rw [e]
theorem zFh (l:List AV) (k:Int) (a b:List Nat) (n:Int):l.length+(RT.leaf k a b n).size-1=l.length:=by
 show l.length+1-1=_
 omega
variable (hs:s.length<=65536)
include hs
theorem zRs (j n:Nat) (m:Int) (k:Int) (a:List Nat) (F:j<=s.length) (hm:x.b=false->m=Int.ofNat (n+1)) (E:x.b=false->l.length<=64):
  Wp (dD true [D.v K.s,D.hc 0 false 7,D.v K.s,D.v (K.i IntKind.i64),D.v (K.c (AV.sym 0)),D.v (K.i IntKind.i64),D.v (K.i IntKind.i64),D.v K.b,D.v (K.i IntKind.i64),D.vec 0 6] (zAi s (Int.ofNat j) x.e x.f x.b m l) λ H J B y z I A C=>zn J B y z I A k a H (Int.ofNat 0) (Int.negSucc 0) (Int.negSucc 0) C) (Res2 s l x (zIE s j n k a)):=by
 refine qdS (zVD hs x m l j F) ?_
 by_cases g:x.b=true
 ·rw [zUf g];refine (zCD (s:=s) (x:=x) (l:=l) k a _ _ _ _ _ m E).mono λ v p=>⟨p.1,λ h=>?_⟩
  rw [h] at g;cases g
 ·have g:x.b=false:=by simpa using g
  have M:=zDR wrdB s (sk s j) (zAD F);unfold zIE zL0 valF;by_cases q:rn wrdB s (sk s j)=0
  ·rw [if_neg (by omega),if_pos q,if_pos q,FL.qt g]
   refine (zCD (x:=⟨5,Int.ofNat (sk s j),true⟩) k a _ _ _ _ _ m (λ h=>by cases h)).mono λ v p=>⟨λ h=>(by rw [h] at g;cases g),λ _=>p.1 rfl⟩
  ·by_cases w:32<rn wrdB s (sk s j)
   ·rw [if_pos w,if_neg q,if_neg q,if_pos w,FL.qt g];refine (zCD (x:=⟨5,Int.ofNat (sk s j+32),true⟩) k a _ _ _ _ _ m (λ h=>by cases h)).mono λ v p=>⟨λ h=>(by rw [h] at g;cases g),λ _=>p.1 rfl⟩
   ·rw [if_neg w,if_neg q,if_neg q,if_neg w];refine (zCD (x:=x) k a _ _ _ _ _ m E).mono λ v p=>⟨λ h=>(by rw [h] at g;cases g),λ _=>?_⟩
    have:=p.2 g;rw [hm g] at this;show v=outB (.int .i64 (Int.ofNat (l.length+(RT.leaf k a _ 0).size-1))) s _ x _ _
    rw [zFh];exact this
theorem zRt (j n:Nat) (m:Int) (k:Int) (a:List Nat) (I:j<=s.length) (hm:x.b=false->m=Int.ofNat (n+1)) (H:x.b=false->l.length<=64):
  Wp (dD true [D.v (K.i IntKind.i64),D.hc 0 false 7,D.v K.s,D.v (K.i IntKind.i64),D.v (K.c (AV.sym 0)),D.v (K.i IntKind.i64),D.v (K.i IntKind.i64),D.v K.b,D.v (K.i IntKind.i64),D.vec 0 6] (z7 s (Int.ofNat j) x.e x.f x.b m l) λ C J z A B M y E=>zn J z A B M y k a [] C (Int.negSucc 0) (Int.negSucc 0) E) (Res2 s l x (zIF s j n k a)):=by
 refine qdI (zUe hs x m l j I) ?_
 by_cases g:x.b=true
 ·rw [zUg g];refine (zCD (s:=s) (x:=x) (l:=l) k a _ _ _ _ _ m H).mono λ v q=>⟨q.1,λ h=>?_⟩
  rw [h] at g;cases g
 ·have g:x.b=false:=by simpa using g
  have R:=zAD I;have F:=zRp zRq s _ (sk s j) (QB _);unfold zIF zKn numF numR;rw [show min 12 (rn digB s (sk s j))=kdig s (sk s j) from rfl]
  by_cases p:isAt wrdB s (sk s j+kdig s (sk s j))=true
  ·rw [if_pos p,if_pos p,if_pos p,FL.qt g];refine (zCD (x:=⟨5,Int.ofNat (sk s j+kdig s (sk s j)),true⟩) k a _ _ _ _ _ m (λ h=>by cases h)).mono λ v q=>⟨λ h=>(by rw [h] at g;cases g),λ _=>q.1 rfl⟩
  ·rw [if_neg p,if_neg p,if_neg p];by_cases w:rn digB s (sk s j)=0
   ·rw [if_pos w,if_pos w,FL.qt g];refine (zCD (x:=⟨5,Int.ofNat (sk s j),true⟩) k a _ _ _ _ _ m (λ h=>by cases h)).mono λ v q=>⟨λ h=>(by rw [h] at g;cases g),λ _=>q.1 rfl⟩
   ·rw [if_neg w,if_neg w];have Q:rn wrdB s (sk s j)=kdig s (sk s j):=by
     have O:kdig s (sk s j)<=rn digB s (sk s j):=Nat.min_le_right _ _;by_cases h:kdig s (sk s j)<rn wrdB s (sk s j)
     ·exact absurd (zHY _ _ h) p
     ·omega
    rw [Q];refine (zCD (x:=x) k a _ _ _ _ _ m H).mono λ v q=>⟨λ h=>(by rw [h] at g;cases g),λ _=>?_⟩
    have:=q.2 g;rw [hm g] at this;show v=outB (.int .i64 (Int.ofNat (l.length+(RT.leaf k a [] _).size-1))) s _ x _ _
    rw [zFh];exact this
omit hs in
theorem zTi (j n:Nat) (m:Int) (b:Bool) (a:List Nat) (w:j<=s.length) (hs:s.length<=65536) (hm:x.b=false->m=Int.ofNat (n+1)) (q:x.b=false->l.length<=64):
  Wp (zP b s (Int.ofNat j) x.e x.f x.b m (Int.ofNat 6) a [] (Int.ofNat 0) (Int.negSucc 0) (Int.negSucc 0) l) (Res2 s l x (if b=true then .error (5,Int.ofNat (j+1)) else .ok (j,n+1,.leaf 6 a [] 0))):=by
 rw [zFt];refine Wp.if (λ h=>?_) λ h=>?_
 ·rw [if_pos h,zf (by omega)]
  refine qdU (zEK x m l 5 _ _) ?_
  by_cases g:x.b=true
  ·rw [FL.qH g];exact (zCD (s:=s) (x:=x) (l:=l) _ a _ _ _ _ _ m q).mono λ v p=>⟨p.1,λ h=>by rw [h] at g;cases g⟩
  ·have g:x.b=false:=by simpa using g
   rw [FL.qt g];exact (zCD (x:=⟨5,Int.ofNat (j+1),true⟩) _ a _ _ _ _ _ m (λ h=>by cases h)).mono λ v p=>⟨λ h=>(by rw [h] at g;cases g),λ _=>p.1 rfl⟩
 ·rw [if_neg (by rw [h];decide)]
  refine (zCD (x:=x) _ a _ _ _ _ _ m q).mono λ v p=>⟨p.1,λ g=>?_⟩
  have:=p.2 g;rw [hm g] at this;show v=outB (.int .i64 (Int.ofNat (l.length+(RT.leaf 6 a [] 0).size-1))) s _ x _ _
  rw [zFh];exact this
theorem zVE {j p q:Nat}:List.drop j (List.take (j+2) s)=[p,q]↔s[j]? = some p/\s[j+1]? = some q:=by
 constructor
 ·intro h;have f:(List.drop j (List.take (j+2) s))[0]? = s[j]?:=by rw [List.getElem?_drop,List.getElem?_take_of_lt (by omega)];rfl
  have e:(List.drop j (List.take (j+2) s))[1]? = s[j+1]?:=by rw [List.getElem?_drop,List.getElem?_take_of_lt (by omega)]
  rw [←f,←e,h];exact ⟨rfl,rfl⟩
 ·intro h;obtain ⟨f,g⟩:=QD.1 h.1;obtain ⟨e,v⟩:=QD.1 h.2;rw [List.drop_take,show j+2-j=2 by omega,Qg f,Qg e,g,v]
  rfl
def zKV (s:List Nat) (j:Nat):List Nat:=if j+2<=s.length then List.drop j (List.take (j+2) s) else []
theorem zO3 {j p q:Nat}:zKV s j=[p,q]↔s[j]? = some p/\s[j+1]? = some q:=by
 unfold zKV;split
 ·exact zVE hs
 ·rename_i h;refine ⟨λ h=>(by cases h),λ e=>?_⟩
  have:=zC9 e.2;omega
omit hs in
theorem zCp {j c:Nat} (h:c≠0):(s[j]?).getD 0=c↔s[j]? = some c:=by
 cases s[j]? with
 | none=>simp;omega
 | some d=>simp
theorem zTj (j n:Nat) (m:Int) (a:List Nat) (H:j<=s.length) (hm:x.b=false->m=Int.ofNat (n+1)) (B:x.b=false->l.length<=64):
  Wp (zQ (Int.ofNat ((s[j]?).getD 0)) (zKV s j) s (Int.ofNat j) x.e x.f x.b m (Int.ofNat 6) a [] (Int.ofNat 0) (Int.negSucc 0) (Int.negSucc 0) l) (Res2 s l x (zDS s j n a)):=by
 have two:∀p q:Nat,(seqb (zKV s j) [p,q]=true->s[j]? = some p/\s[j+1]? = some q)/\(seqb (zKV s j) [p,q]=false->¬(s[j]? = some p/\s[j+1]? = some q)):=λ p q=>by
  rw [zAP];exact ⟨λ h=>(zO3 hs).1 (QO h),λ h A=>Qq h ((zO3 hs).2 A)⟩
 have one:∀c:Nat,c≠0->((Int.ofNat ((s[j]?).getD 0)==Int.ofNat c)=true->s[j]? = some c)/\((Int.ofNat ((s[j]?).getD 0)==Int.ofNat c)=false->¬s[j]? = some c):=λ c hc=>
  ⟨λ h=>(zCp hc).1 (beqN.1 h),λ h A=>zIG.1 h ((zCp hc).2 A)⟩
 unfold zDS;rw [zFu];refine Wp.if (λ h=>?_) λ h=>?_
 ·have h:=(one 61 (by decide)).1 h
  rw [if_pos h,zf (by omega)]
  exact zRs hs (j+1) n m 2 a (zC9 h) hm B
 have D:=(one 61 (by decide)).2 h
 rw [if_neg D];have E:wrapx .i64 (Int.ofNat j+2)=Int.ofNat (j+2):=zT (by rw [qr];omega) (by rw [qr];omega)
 refine Wp.if (λ h=>?_) λ h=>?_
 ·have h:=(two 33 61).1 h;rw [if_pos h,E];exact zRs hs (j+2) n m 3 a (zC9 h.2) hm B
 rw [if_neg ((two 33 61).2 h)];refine Wp.if (λ h=>?_) λ h=>?_
 ·have h:=(two 62 61).1 h;rw [if_pos h,E];exact zRt hs (j+2) n m 4 a (zC9 h.2) hm B
 rw [if_neg ((two 62 61).2 h)];refine Wp.if (λ h=>?_) λ h=>?_
 ·have h:=(two 60 61).1 h;rw [if_pos h,E];exact zRt hs (j+2) n m 5 a (zC9 h.2) hm B
 rw [if_neg ((two 60 61).2 h)];have g:∀b:Bool,(b=true↔(s[j]? = some 33\/s[j]? = some 62\/s[j]? = some 60))->Wp (zP b s (Int.ofNat j) x.e x.f x.b m (Int.ofNat 6) a [] (Int.ofNat 0) (Int.negSucc 0) (Int.negSucc 0) l) (Res2 s l x (if s[j]? = some 33\/s[j]? = some 62\/s[j]? = some 60 then .error (5,Int.ofNat (j+1)) else .ok (j,n+1,.leaf 6 a [] 0))):=λ b F=>by
  refine (zTi j n m b a H hs hm B).mono λ v C=>?_
  by_cases h:s[j]? = some 33\/s[j]? = some 62\/s[j]? = some 60
  ·rw [if_pos h];rw [if_pos (F.2 h)] at C;exact C
  ·rw [if_neg h];rw [if_neg (λ A=>h (F.1 A))] at C;exact C
 refine Wp.if (λ h=>g true ?_) λ w=>Wp.if (λ h=>g true ?_) λ y=>g _ ?_
 ·simp [(one 33 (by decide)).1 h]
 ·simp [(one 62 (by decide)).1 h]
 ·have w:=(one 33 (by decide)).2 w
  have y:=(one 62 (by decide)).2 y
  have z:=one 60 (by decide)
  constructor
  ·intro h;exact .inr (.inr (z.1 h))
  ·intro h;rcases h with h | h | h
   ·exact absurd h w
   ·exact absurd h y
   ·cases hc:(Int.ofNat ((s[j]?).getD 0)==Int.ofNat 60) with
    | true=>rfl
    | false=>exact absurd h (z.2 hc)
theorem zVF (i n:Nat) (m:Int) (U:i<=s.length) (hm:x.b=false->m=Int.ofNat n/\n<=64) (T:x.b=false->l.length<=64):
  Wp (zA6 s (Int.ofNat i) x.e x.f x.b m l) (Res2 s l x (zC8 s i n)):=by
 rw [zF9];have I:=zTh (s:=s) U;refine qdS (zWw hs x m l i U) (Wp.if (λ h=>Wp.mk ⟨λ j=>?_,λ j=>?_⟩) λ h=>?_)
 ·rw [zRr j];exact ⟨_,_,_,_,rfl⟩
 ·unfold nmF at h;have hc:isAt lowB s i=false\/isAt wrdB s (nmE s i)=true:=by
   by_cases hc:isAt lowB s i=false\/isAt wrdB s (nmE s i)=true
   ·exact hc
   ·rw [if_neg hc,j] at h;cases h
  unfold zC8;have O:nmF x s i=⟨5,Int.ofNat (nmE s i),true⟩:=by unfold nmF;rw [if_pos hc,FL.qt j]
  rw [O];cases g:isAt lowB s i with
  | false=>
   rw [if_pos rfl];have:nmE s i=i:=by unfold nmE;rw [g];rfl
   rw [this];exact ⟨_,_,_,_,rfl⟩
  | true=>
   have:nmE s i=i+min 24 (rn namB s i):=by unfold nmE;rw [g];rfl
   rw [g] at hc;rw [this] at hc ⊢;rw [if_neg (by decide),if_pos (hc.resolve_left (by decide))]
   exact ⟨_,_,_,_,rfl⟩
 ·
  have j:x.b=false:=by
   cases hx:x.b with
   | false=>rfl
   | true=>rw [zRr hx,hx] at h;cases h
  have hc:¬(isAt lowB s i=false\/isAt wrdB s (nmE s i)=true):=λ hc=>by
   unfold nmF at h;rw [if_pos hc,FL.ud] at h;cases h
  have O:nmF x s i=x:=by unfold nmF;rw [if_neg hc]
  have g:isAt lowB s i=true:=by
   cases F:isAt lowB s i with
   | true=>rfl
   | false=>exact absurd (.inl F) hc
  have S:nmE s i=i+min 24 (rn namB s i):=by unfold nmE;rw [g];rfl
  obtain ⟨rfl,hn⟩:=hm j;have X:¬isAt wrdB s (i+min 24 (rn namB s i))=true:=λ F=>hc (.inr (by rw [S];exact F))
  unfold zC8;rw [O,g,if_neg (by decide),if_neg X,←S]
  refine qdU (zMr x (Int.ofNat n) l _ _) ?_
  rw [zf (by omega)]
  have key:∀y:FL,(y=x/\n+1<=64\/y=⟨3,Int.ofNat i,true⟩/\64<n+1)->Wp (br (seqb (cutS s i (nmE s i)) [97,110,121]) (dD true [D.v (K.i IntKind.i64),D.hc 0 false 7,D.v K.s,D.v (K.i IntKind.i64),D.v (K.c (AV.sym 0)),D.v (K.i IntKind.i64),D.v (K.i IntKind.i64),D.v K.b,D.v (K.i IntKind.i64),D.vec 0 6] (zt (Int.ofNat 1) [] [] (Int.ofNat 0) (Int.negSucc 0) (Int.negSucc 0) s (Int.ofNat (nmE s i)) y.e y.f y.b (Int.ofNat (n+1)) l) λ M B p q w J z A=>some (AV.int IntKind.i64 M,[(0,HO.cells false [AV.str B,AV.int IntKind.i64 p,AV.sym 0,AV.int IntKind.i64 q,AV.int IntKind.i64 w,AV.bool J,AV.int IntKind.i64 z])],[(0,VI.vec 6 A)])) (dD true [D.v (K.i IntKind.u8),D.hc 0 false 7,D.v K.s,D.v (K.i IntKind.i64),D.v (K.c (AV.sym 0)),D.v (K.i IntKind.i64),D.v (K.i IntKind.i64),D.v K.b,D.v (K.i IntKind.i64),D.vec 0 6] (zr s (Int.ofNat (nmE s i)) y.e y.f y.b (Int.ofNat (n+1)) l) λ M B p q w J z A=>br (decide (wrapx IntKind.i64 (p+2)<=Int.ofNat (List.length B))) (gd (decide (0<=p/\p<=wrapx IntKind.i64 (p+2)/\wrapx IntKind.i64 (p+2)<=Int.ofNat (List.length B))) (zQ M (List.drop (Int.toNat p) (List.take (Int.toNat (wrapx IntKind.i64 (p+2))) B)) B p q w J z (Int.ofNat 6) (cutS s i (nmE s i)) [] (Int.ofNat 0) (Int.negSucc 0) (Int.negSucc 0) A)) (zQ M [] B p q w J z (Int.ofNat 6) (cutS s i (nmE s i)) [] (Int.ofNat 0) (Int.negSucc 0) (Int.negSucc 0) A))) (Res2 s l x (if 64<n+1 then .error (3,Int.ofNat i) else if cutS s i (nmE s i)=[97,110,121] then .ok (nmE s i,n+1,.leaf 1 [] [] 0) else zDS s (sk s (nmE s i)) n (cutS s i (nmE s i)))):=λ y Y=>by
   have H:y.b=false->l.length<=64:=λ _=>T j
   have post:∀{r:RE (Nat×Nat×RT)} {v:AV×Heap×Vecs},Res2 s l y r v->Res2 s l x (if 64<n+1 then .error (3,Int.ofNat i) else r) v:=λ{r v} C=>by
    refine ⟨λ h=>(by rw [h] at j;cases j),λ _=>?_⟩
    rcases Y with ⟨rfl,h⟩ | ⟨rfl,h⟩
    ·rw [if_neg (by omega)];exact C.2 j
    ·rw [if_pos h];exact C.1 rfl
   refine Wp.if (λ h=>?_) λ h=>?_
   ·rw [zAP] at h;rw [if_pos (QO h)];refine qdI (zPu y (Int.ofNat (n+1)) l _ [] [] _ _ _ _ H) (Wp.mk (post ⟨λ _=>⟨_,_,_,_,rfl⟩,λ Q=>?_⟩))
    rw [if_neg (by rw [Q];decide),QC]
    have:=T j;show outB (.int .i64 (wrapx .i64 (Int.ofNat (l.length+1)-1))) s _ y _ _=outB (.int .i64 (Int.ofNat (l.length+1-1))) s _ y _ _
    rw [zA5 (by omega) (by omega)]
    rfl
   ·rw [zAP] at h;rw [if_neg (Qq h)];refine qd8 (zJd hs y (Int.ofNat (n+1)) l (nmE s i) I.2) ?_
    have V:=zAD I.2;have W:wrapx .i64 (Int.ofNat (sk s (nmE s i))+2)=Int.ofNat (sk s (nmE s i)+2):=zT (by rw [qr];omega) (by rw [qr];omega)
    have E:=zTj (s:=s) (x:=y) (l:=l) hs (sk s (nmE s i)) n (Int.ofNat (n+1)) (cutS s i (nmE s i)) V (λ _=>rfl) H
    unfold pk;rw [W];refine Wp.ite (λ h=>Wp.gd ⟨Qa _,Qp.2 (by omega),h⟩ ?_) λ h=>?_
    ·have h:sk s (nmE s i)+2<=s.length:=Qp.1 h;unfold zKV at E;rw [if_pos h] at E;exact E.mono λ v C=>post C
    ·have h:¬sk s (nmE s i)+2<=s.length:=λ F=>h (Qp.2 F)
     unfold zKV at E;rw [if_neg h] at E;exact E.mono λ v C=>post C
  by_cases R:64<n+1
  ·rw [if_pos (show (64:Int)<Int.ofNat (n+1) by rw [qr];omega),FL.qt j]
   exact key ⟨3,Int.ofNat i,true⟩ (.inr ⟨rfl,R⟩)
  ·rw [if_neg (show ¬(64:Int)<Int.ofNat (n+1) by rw [qr];omega)]
   exact key x (.inl ⟨rfl,by omega⟩)
end
end Go.Proofs.YtdeeimaahdgeaaaGreatDoor.spec
namespace Go.Proofs.YtdeeimaahdgeaaaGreatDoor.spec
open Go Go.Sy
variable [MX]
theorem zQm {s:List Nat} {x:FL} {l:List AV} {i n:Int} {k:Int} {a b:List Nat} {m p q:Int} (h:x.b=false) (g:l.length<=64):zt k a b m p q s i x.e x.f x.b n l=some (outB (.int .i64 (Int.ofNat l.length)) s i x n (l++[nd6 k a b m p q])):=by
 rw [zPu x n l k a b m p q i (λ _=>g),if_neg (by rw [h];decide),QC]
 have e:wrapx .i64 (Int.ofNat (l.length+[nd6 k a b m p q].length)-1)=Int.ofNat l.length:=zA5 (i:=l.length+1) (by omega) (by omega)
 rw [e]
theorem zHy {s:List Nat} {x:FL} {l:List AV} {i n:Int} {k:Int} {a b:List Nat} {m p q:Int} (g:x.b=true):∃v,zt k a b m p q s i x.e x.f x.b n l=some (outB (.int .i64 v) s i x n l):=⟨_,by rw [zPu x n l k a b m p q i (λ h=>by rw [h] at g;cases g),if_pos g]⟩
theorem zNf {s:List Nat} {x:FL} {l:List AV} {i f:Int} {n:Nat} (h:n+1<=64):zu f s i x.e x.f x.b (Int.ofNat n) l=some (outB (.qf []) s i x (Int.ofNat (n+1)) l):=by
 rw [zMr,zf (by omega),if_neg (by rw [qr];omega)]
theorem zKW {s:List Nat} {x:FL} {l:List AV} {i f:Int} {n:Nat} (g:x.b=false) (h:64<n+1) (j:n<=1000):zu f s i x.e x.f x.b (Int.ofNat n) l=some (outB (.qf []) s i ⟨3,f,true⟩ (Int.ofNat (n+1)) l):=by
 rw [zMr,zf (by omega),if_pos (by rw [qr];omega),FL.qt g]
theorem zTk {s:List Nat} {x:FL} {l:List AV} {i f n:Int} (g:x.b=true):zu f s i x.e x.f x.b n l=some (outB (.qf []) s i x (wrapx .i64 (n+1)) l):=by
 rw [zMr,FL.qH g,ite_self]
abbrev PreB (s:List Nat) (x:FL) (l:List AV) (i n:Nat) (m:Int):Prop:=i<=s.length/\(x.b=false->m=Int.ofNat n/\n<=64/\l.length<=n)
def POne (s:List Nat) (g:Nat):Prop:=∀(d:Nat) (x:FL) (l:List AV) (i n:Nat) (m:Int),3*g+1<=d->PreB s x l i n m->Wp (zAx d (Int.ofNat (32-g)) s (Int.ofNat i) x.e x.f x.b m l) (Res2 s l x (oneM s g i n))
def PAnd (s:List Nat) (g:Nat):Prop:=∀(d:Nat) (x:FL) (l:List AV) (i n:Nat) (m:Int),3*g+2<=d->PreB s x l i n m->Wp (zBb d (Int.ofNat (32-g)) s (Int.ofNat i) x.e x.f x.b m l) (Res2 s l x (andM s g i n))
def POr (s:List Nat) (g:Nat):Prop:=∀(d:Nat) (x:FL) (l:List AV) (i n:Nat) (m:Int),3*g+3<=d->PreB s x l i n m->Wp (zBr d (Int.ofNat (32-g)) s (Int.ofNat i) x.e x.f x.b m l) (Res2 s l x (orM s g i n))
theorem zNZ (l:List AV) (k:Int) (t u:RT):(l++t.fl l.length)++u.fl (l++t.fl l.length).length++[nd6 k [] [] (Int.ofNat 0) (Int.ofNat (l.length+t.size-1)) (Int.ofNat ((l++t.fl l.length).length+u.size-1))]=l++(RT.two k t u).fl l.length:=by
 rw [QC,RT.fl_length,RT.fl];simp only [Qi]
theorem zMs {s:List Nat} {x:FL} {l:List AV} {i left m:Int} {d N:Nat} {deep:Int} (g:x.b=true):Wp (z8 d (N+1) deep left s i x.e x.f x.b m l) (BadP s x):=by
 rw [zCT];exact Wp.if (λ h=>by rw [g] at h;cases h) λ _=>Wp.mk ⟨_,_,_,_,rfl⟩
theorem zUh {s:List Nat} (hs:s.length<=65536) {g:Nat} (M:POne s g) {d:Nat} (K:3*g+1<=d) {x:FL} (E:x.b=false) (l:List AV):∀(N z i n:Nat) (t:RT),n<=64->65<=n+z->z<N->l.length+t.size<=n->i<=s.length →
  Wp (z8 d N (Int.ofNat (32-g)) (Int.ofNat (l.length+t.size-1)) s (Int.ofNat i) x.e x.f x.b (Int.ofNat n) (l++t.fl l.length)) (OutP s l x (zGe (oneM s g) s 38 8 z i n t)):=by
 intro N
 induction N with
 | zero=>intro z i n t _ _ h;omega
 | succ N U=>
  intro z i n t X Y hN W O;obtain ⟨z,rfl⟩:∃k,z=k+1:=⟨z-1,by omega⟩
  obtain ⟨N,rfl⟩:∃k,N=k+1:=⟨N-1,by omega⟩
  have V:=zAD O;rw [zCT,zGe];refine Wp.if (λ _=>qd8 (zJd hs x (Int.ofNat n) _ i O) (Wp.if (λ h=>?_) λ h=>?_)) λ h=>by rw [E] at h;cases h
  ·have h:s[sk s i]? = some 38:=(zCp (by decide)).1 ((beqN (y:=38)).1 h)
   rw [if_pos h,zFR];have C:=zC9 h;by_cases A:64<n+1
   ·rw [if_pos A];refine qdU (zKW E A (by omega)) ?_
    rw [zf (by omega)]
    obtain ⟨v,F,j⟩:=M d ⟨3,Int.ofNat (sk s i),true⟩ (l++t.fl l.length) (sk s i+1) 0 (Int.ofNat (n+1)) K ⟨C,λ h=>by cases h⟩
    obtain ⟨y,D,B,J,rfl⟩:=j.1 rfl;refine qdI F ?_
    obtain ⟨w,I⟩:=zHy (s:=s) (x:=⟨3,Int.ofNat (sk s i),true⟩) (l:=J) (i:=D) (n:=B) (k:=Int.ofNat 8) (a:=[]) (b:=[]) (m:=Int.ofNat 0) (p:=Int.ofNat (l.length+t.size-1)) (q:=y) rfl;exact qdI I (zMs rfl)
   ·rw [if_neg A];refine qdU (zNf (by omega)) ?_
    rw [zf (by omega)]
    have H:(l++t.fl l.length).length<=n+1:=by rw [QC,RT.fl_length];omega
    obtain ⟨v,F,j⟩:=M d x (l++t.fl l.length) (sk s i+1) (n+1) (Int.ofNat (n+1)) K ⟨C,λ _=>⟨rfl,by omega,H⟩⟩
    have j:=j.2 E;cases hx:oneM s g (sk s i+1) (n+1) with
    | error e=>
     rw [hx] at j;obtain ⟨y,D,B,J,rfl⟩:=j;refine qdI F ?_
     obtain ⟨w,I⟩:=zHy (s:=s) (x:=⟨e.1,e.2,true⟩) (l:=J) (i:=D) (n:=B) (k:=Int.ofNat 8) (a:=[]) (b:=[]) (m:=Int.ofNat 0) (p:=Int.ofNat (l.length+t.size-1)) (q:=y) rfl;exact qdI I (zMs rfl)
    | ok r=>
     obtain ⟨D,B,u⟩:=r;rw [hx] at j;have j:v=_:=j;subst j;obtain ⟨g1,g2,g3,g4,g5⟩:=zHw s g _ _ _ _ _ (show sk s i+1<=s.length by omega) (by omega) hx
     have S:(RT.two 8 t u).size=t.size+u.size+1:=rfl;refine qdI F (qdI (zQm E ?_) ?_)
     ·rw [QC,RT.fl_length,QC,RT.fl_length];omega
     ·have T:(l++t.fl l.length++u.fl (l++t.fl l.length).length).length=l.length+(RT.two 8 t u).size-1:=by
       rw [QC,RT.fl_length,QC,RT.fl_length];omega
      have R:=zNZ l 8 t u;rw [T];have:=U z D B (.two 8 t u) g4 (by omega) (by omega) (by omega) g2
      rw [←R] at this;exact this
  ·have h:¬s[sk s i]? = some 38:=λ Q=>(zIG (y:=38)).1 h ((zCp (by decide)).2 Q)
   rw [if_neg h];exact Wp.mk rfl
theorem zUC {s:List Nat} (hs:s.length<=65536) {g:Nat} (B:POne s g):PAnd s g:=by
 intro d x l i n m E w;obtain ⟨d,rfl⟩:∃k,d=k+1:=⟨d-1,by omega⟩
 rw [zGp];obtain ⟨v,z,j⟩:=B d x l i n m (by omega) w
 rw [show FUEL=1180591620717411303423+1 from zDM]
 by_cases f:x.b=true
 ·obtain ⟨y,A,q,D,rfl⟩:=j.1 f;exact qdI z ((zMs f).mono λ v h=>⟨λ _=>h,λ p=>by rw [p] at f;cases f⟩)
 ·have f:x.b=false:=by simpa using f
  have j:=j.2 f;obtain ⟨H,C,F⟩:=w.2 f;show Wp _ (Res2 s l x (zDT (oneM s g) s 38 8 i n))
  unfold zDT;cases hx:oneM s g i n with
  | error e=>
   rw [hx] at j;obtain ⟨y,A,q,D,rfl⟩:=j;exact qdI z ((zMs (x:=⟨e.1,e.2,true⟩) rfl).mono λ v h=>⟨λ p=>(by rw [p] at f;cases f),λ _=>h⟩)
  | ok r=>
   obtain ⟨A,q,u⟩:=r;rw [hx] at j;have j:v=_:=j;subst j;obtain ⟨g1,g2,g3,g4,g5⟩:=zHw s g _ _ _ _ _ w.1 C hx;refine qdI z ((zUh hs B (by omega) f l _ 65 A q u g4 (by omega) (by omega) (by omega) g2).mono λ v h=>⟨λ p=>(by rw [p] at f;cases f),λ _=>h⟩)
theorem zN0 {s:List Nat} {x:FL} {l:List AV} {i left m:Int} {d N:Nat} {deep:Int} (g:x.b=true):Wp (zAj d (N+1) deep left s i x.e x.f x.b m l) (BadP s x):=by
 rw [zC6];exact Wp.if (λ h=>by rw [g] at h;cases h) λ _=>Wp.mk ⟨_,_,_,_,rfl⟩
theorem zVG {s:List Nat} (hs:s.length<=65536) {g:Nat} (M:PAnd s g) {d:Nat} (K:3*g+2<=d) {x:FL} (E:x.b=false) (l:List AV):∀(N z i n:Nat) (t:RT),n<=64->65<=n+z->z<N->l.length+t.size<=n->i<=s.length →
  Wp (zAj d N (Int.ofNat (32-g)) (Int.ofNat (l.length+t.size-1)) s (Int.ofNat i) x.e x.f x.b (Int.ofNat n) (l++t.fl l.length)) (OutP s l x (zGe (andM s g) s 124 9 z i n t)):=by
 intro N
 induction N with
 | zero=>intro z i n t _ _ h;omega
 | succ N U=>
  intro z i n t X Y hN W O;obtain ⟨z,rfl⟩:∃k,z=k+1:=⟨z-1,by omega⟩
  obtain ⟨N,rfl⟩:∃k,N=k+1:=⟨N-1,by omega⟩
  have V:=zAD O;rw [zC6,zGe];refine Wp.if (λ _=>qd8 (zJd hs x (Int.ofNat n) _ i O) (Wp.if (λ h=>?_) λ h=>?_)) λ h=>by rw [E] at h;cases h
  ·have h:s[sk s i]? = some 124:=(zCp (by decide)).1 ((beqN (y:=124)).1 h)
   rw [if_pos h,zFZ];have C:=zC9 h;by_cases A:64<n+1
   ·rw [if_pos A];refine qdU (zKW E A (by omega)) ?_
    rw [zf (by omega)]
    obtain ⟨v,F,j⟩:=M d ⟨3,Int.ofNat (sk s i),true⟩ (l++t.fl l.length) (sk s i+1) 0 (Int.ofNat (n+1)) K ⟨C,λ h=>by cases h⟩
    obtain ⟨y,D,B,J,rfl⟩:=j.1 rfl;refine qdI F ?_
    obtain ⟨w,I⟩:=zHy (s:=s) (x:=⟨3,Int.ofNat (sk s i),true⟩) (l:=J) (i:=D) (n:=B) (k:=Int.ofNat 9) (a:=[]) (b:=[]) (m:=Int.ofNat 0) (p:=Int.ofNat (l.length+t.size-1)) (q:=y) rfl;exact qdI I (zN0 rfl)
   ·rw [if_neg A];refine qdU (zNf (by omega)) ?_
    rw [zf (by omega)]
    have H:(l++t.fl l.length).length<=n+1:=by rw [QC,RT.fl_length];omega
    obtain ⟨v,F,j⟩:=M d x (l++t.fl l.length) (sk s i+1) (n+1) (Int.ofNat (n+1)) K ⟨C,λ _=>⟨rfl,by omega,H⟩⟩
    have j:=j.2 E;cases hx:andM s g (sk s i+1) (n+1) with
    | error e=>
     rw [hx] at j;obtain ⟨y,D,B,J,rfl⟩:=j;refine qdI F ?_
     obtain ⟨w,I⟩:=zHy (s:=s) (x:=⟨e.1,e.2,true⟩) (l:=J) (i:=D) (n:=B) (k:=Int.ofNat 9) (a:=[]) (b:=[]) (m:=Int.ofNat 0) (p:=Int.ofNat (l.length+t.size-1)) (q:=y) rfl;exact qdI I (zN0 rfl)
    | ok r=>
     obtain ⟨D,B,u⟩:=r;rw [hx] at j;have j:v=_:=j;subst j;obtain ⟨g1,g2,g3,g4,g5⟩:=zKq s g _ _ _ _ _ (show sk s i+1<=s.length by omega) (by omega) hx
     have S:(RT.two 9 t u).size=t.size+u.size+1:=rfl;refine qdI F (qdI (zQm E ?_) ?_)
     ·rw [QC,RT.fl_length,QC,RT.fl_length];omega
     ·have T:(l++t.fl l.length++u.fl (l++t.fl l.length).length).length=l.length+(RT.two 9 t u).size-1:=by
       rw [QC,RT.fl_length,QC,RT.fl_length];omega
      have R:=zNZ l 9 t u;rw [T];have:=U z D B (.two 9 t u) g4 (by omega) (by omega) (by omega) g2
      rw [←R] at this;exact this
  ·have h:¬s[sk s i]? = some 124:=λ Q=>(zIG (y:=124)).1 h ((zCp (by decide)).2 Q)
   rw [if_neg h];exact Wp.mk rfl
theorem or_P {s:List Nat} (hs:s.length<=65536) {g:Nat} (B:PAnd s g):POr s g:=by
 intro d x l i n m E w;obtain ⟨d,rfl⟩:∃k,d=k+1:=⟨d-1,by omega⟩
 rw [zGH];obtain ⟨v,z,j⟩:=B d x l i n m (by omega) w
 rw [show FUEL=1180591620717411303423+1 from zDM]
 by_cases f:x.b=true
 ·obtain ⟨y,A,q,D,rfl⟩:=j.1 f;exact qdI z ((zN0 f).mono λ v h=>⟨λ _=>h,λ p=>by rw [p] at f;cases f⟩)
 ·have f:x.b=false:=by simpa using f
  have j:=j.2 f;obtain ⟨H,C,F⟩:=w.2 f;show Wp _ (Res2 s l x (zDT (andM s g) s 124 9 i n))
  unfold zDT;cases hx:andM s g i n with
  | error e=>
   rw [hx] at j;obtain ⟨y,A,q,D,rfl⟩:=j;exact qdI z ((zN0 (x:=⟨e.1,e.2,true⟩) rfl).mono λ v h=>⟨λ p=>(by rw [p] at f;cases f),λ _=>h⟩)
  | ok r=>
   obtain ⟨A,q,u⟩:=r;rw [hx] at j;have j:v=_:=j;subst j;obtain ⟨g1,g2,g3,g4,g5⟩:=zKq s g _ _ _ _ _ w.1 C hx;refine qdI z ((zVG hs B (by omega) f l _ 65 A q u g4 (by omega) (by omega) (by omega) g2).mono λ v h=>⟨λ p=>(by rw [p] at f;cases f),λ _=>h⟩)
theorem zN1 {s:List Nat} {x:FL} {y i n:Int} {l:List AV} {d:Nat}:Wp (zAT d y s i x.e x.f x.b n l) (BadP s x):=by
 rw [zCU];exact Wp.mk ⟨_,_,_,_,rfl⟩
theorem zN2 {s:List Nat} {x:FL} {y i n:Int} {l:List AV} {d:Nat}:Wp (zS d y false s i x.e x.f x.b n l) (BadP s x):=by
 rw [zCV];exact Wp.if (λ h=>by cases h) λ _=>zN1
theorem zTl {s:List Nat} (hs:s.length<=65536) {x:FL} {l:List AV} (d:Nat) (z:x.b=false) (i n:Nat) (t:RT) (A:i<=s.length):Wp (br (!x.b) (dD true [D.v (K.i IntKind.u8),D.hc 0 false 7,D.v K.s,D.v (K.i IntKind.i64),D.v (K.c (AV.sym 0)),D.v (K.i IntKind.i64),D.v (K.i IntKind.i64),D.v K.b,D.v (K.i IntKind.i64),D.vec 0 6] (zr s (Int.ofNat i) x.e x.f x.b (Int.ofNat n) (l++t.fl l.length)) λ g C p q w E j y=>zS d (Int.ofNat (l.length+t.size-1)) (g != 41) C p q w E j y) (zS d (Int.ofNat (l.length+t.size-1)) false s (Int.ofNat i) x.e x.f x.b (Int.ofNat n) (l++t.fl l.length))) (OutP s l x (zKo s (.ok (i,n,t)))):=by
 refine Wp.if (λ _=>qd8 (zJd hs x (Int.ofNat n) _ i A) ?_) λ h=>by rw [z] at h;cases h
 have F:=zAD A;show Wp _ (OutP s l x (if s[sk s i]? = some 41 then .ok (sk s i+1,n,t) else .error (5,Int.ofNat (sk s i))))
 rw [zCV];refine Wp.if (λ h=>?_) λ h=>?_
 ·have h:¬s[sk s i]? = some 41:=λ B=>by
   unfold pk at h;rw [B] at h;cases h
  rw [if_neg h];refine qdU (zEK x (Int.ofNat n) _ 5 _ _) ?_
  rw [FL.qt z];exact zN1 (x:=⟨5,Int.ofNat (sk s i),true⟩)
 ·have h:s[sk s i]? = some 41:=by
   have h:(Int.ofNat (pk s i)==Int.ofNat 41)=true:=by
    have h:(!(Int.ofNat (pk s i)==Int.ofNat 41))=false:=h
    simpa using h
   exact (zCp (by decide)).1 (beqN.1 h)
  have:=zC9 h;rw [if_pos h,zCU,zf (by omega)]
  exact Wp.mk rfl
theorem zQn {s:List Nat} (hs:s.length<=65536) {x:FL} {l:List AV} {i n:Nat} {m:Int} (p:PreB s x l i n m):Wp (dD true [D.v (K.i IntKind.i64),D.hc 0 false 7,D.v K.s,D.v (K.i IntKind.i64),D.v (K.c (AV.sym 0)),D.v (K.i IntKind.i64),D.v (K.i IntKind.i64),D.v K.b,D.v (K.i IntKind.i64),D.vec 0 6] (zA6 s (Int.ofNat i) x.e x.f x.b m l) λ C I n6 H J B F q=>some (AV.int IntKind.i64 C,[(0,HO.cells false [AV.str I,AV.int IntKind.i64 n6,AV.sym 0,AV.int IntKind.i64 H,AV.int IntKind.i64 J,AV.bool B,AV.int IntKind.i64 F])],[(0,VI.vec 6 q)])) (Res2 s l x (zC8 s i n)):=by
 obtain ⟨v,w,g⟩:=zVF (s:=s) (x:=x) (l:=l) hs i n m p.1 (λ h=>⟨(p.2 h).1,(p.2 h).2.1⟩) λ h=>by have:=p.2 h;omega
 by_cases j:x.b=true
 ·obtain ⟨y,A,z,M,rfl⟩:=g.1 j;exact qdI w (Wp.mk g)
 ·have j:x.b=false:=by simpa using j
  cases hx:zC8 s i n with
  | error e=>
   rw [hx] at g;obtain ⟨y,A,z,M,rfl⟩:=g.2 j;exact qdI w (Wp.mk g)
  | ok r=>
   obtain ⟨A,z,u⟩:=r;rw [hx] at g;have E:v=_:=g.2 j;subst E;exact qdI w (Wp.mk g)
theorem zWX {s:List Nat} (hs:s.length<=65536):∀g,g<=32->POne s g:=by
 intro g
 induction g with
 | zero=>
  intro _ d x l i n m hd F;obtain ⟨d,rfl⟩:∃k,d=k+1:=⟨d-1,by omega⟩
  have V:=zAD F.1;rw [zDC];refine qd8 (zJd hs x m l i F.1) ?_
  have U:∀b:Bool,(b=true↔(s[sk s i]? = some 33\/s[sk s i]? = some 40))->Wp (z9 d (Int.ofNat (32-0)) (Int.ofNat (pk s i)) (Int.ofNat (sk s i)) b s (Int.ofNat (sk s i)) x.e x.f x.b m l) (Res2 s l x (oneM s 0 i n)):=λ b R=>by
   rw [zCW,oneM];refine Wp.if (λ h=>Wp.ite (λ _=>qdU (zEK x m l 3 _ _) ?_) λ h=>absurd (by decide) h) λ h=>?_
   ·rw [if_pos (R.1 h)];refine Wp.mk ⟨λ j=>?_,λ j=>?_⟩
    ·rw [FL.qH j];exact ⟨_,_,_,_,rfl⟩
    ·rw [FL.qt j];exact ⟨_,_,_,_,rfl⟩
   ·rw [if_neg (λ z=>by rw [R.2 z] at h;cases h)]
    exact zQn hs ⟨V,F.2⟩
  refine Wp.if (λ h=>U _ ⟨λ _=>.inl ((zCp (by decide)).1 ((beqN (y:=33)).1 h)),λ _=>rfl⟩) λ h=>U _ ⟨λ z=>.inr ((zCp (by decide)).1 ((beqN (y:=40)).1 z)),λ z=>?_⟩
  rcases z with z | z
  ·exact absurd ((zCp (by decide)).2 z) ((zIG (y:=33)).1 h)
  ·exact (beqN (y:=40)).2 ((zCp (by decide)).2 z)
 | succ g S=>
  intro hg d x l i n m hd F;have S:=S (by omega)
  have X:=or_P hs (zUC hs S);obtain ⟨d,rfl⟩:∃k,d=k+1:=⟨d-1,by omega⟩
  have V:=zAD F.1;have deep:wrapx .i64 (Int.ofNat (32-(g+1))+1)=Int.ofNat (32-g):=by rw [zf (by omega),show 32-(g+1)+1=32-g by omega]
  have M:¬(Int.ofNat (32-(g+1))>=32):=by rw [qr];omega
  have K:(Int.ofNat (pk s i)==33)=true↔s[sk s i]? = some 33:=(beqN (y:=33)).trans (zCp (by decide))
  have c40:(Int.ofNat (pk s i)==40)=true↔s[sk s i]? = some 40:=(beqN (y:=40)).trans (zCp (by decide))
  rw [zDC];refine qd8 (zJd hs x m l i F.1) ?_
  have U:∀b:Bool,(b=true↔(s[sk s i]? = some 33\/s[sk s i]? = some 40))->Wp (z9 d (Int.ofNat (32-(g+1))) (Int.ofNat (pk s i)) (Int.ofNat (sk s i)) b s (Int.ofNat (sk s i)) x.e x.f x.b m l) (Res2 s l x (oneM s (g+1) i n)):=λ b R=>by
   rw [zCW,oneM];refine Wp.if (λ W=>Wp.ite (λ h=>absurd h M) λ _=>Wp.if (λ h=>?_) λ h=>?_) λ I=>?_
   ·have B:=K.1 h;have D:=zC9 B;rw [if_pos B,deep];by_cases j:x.b=true
    ·refine qdU (zTk j) ?_
     rw [zf (by omega)]
     obtain ⟨v,H,A⟩:=S d x l (sk s i+1) 0 (wrapx .i64 (m+1)) (by omega) ⟨D,λ h=>by rw [h] at j;cases j⟩
     obtain ⟨y,E,C,O,rfl⟩:=A.1 j;obtain ⟨w,T⟩:=zHy (s:=s) (x:=x) (l:=O) (i:=E) (n:=C) (k:=Int.ofNat 7) (a:=[]) (b:=[]) (m:=Int.ofNat 0) (p:=y) (q:=Int.negSucc 0) j;exact qdI H (qdI T (Wp.mk ⟨λ _=>⟨_,_,_,_,rfl⟩,λ h=>by rw [h] at j;cases j⟩))
    ·have j:x.b=false:=by simpa using j
     obtain ⟨rfl,Y,p3⟩:=F.2 j;by_cases Q:64<n+1
     ·rw [if_pos Q];refine qdU (zKW j Q (by omega)) ?_
      rw [zf (by omega)]
      obtain ⟨v,H,A⟩:=S d ⟨3,Int.ofNat (sk s i),true⟩ l (sk s i+1) 0 (Int.ofNat (n+1)) (by omega) ⟨D,λ h=>by cases h⟩
      obtain ⟨y,E,C,O,rfl⟩:=A.1 rfl;obtain ⟨w,T⟩:=zHy (s:=s) (x:=⟨3,Int.ofNat (sk s i),true⟩) (l:=O) (i:=E) (n:=C) (k:=Int.ofNat 7) (a:=[]) (b:=[]) (m:=Int.ofNat 0) (p:=y) (q:=Int.negSucc 0) rfl;exact qdI H (qdI T (Wp.mk ⟨λ h=>(by rw [h] at j;cases j),λ _=>⟨_,_,_,_,rfl⟩⟩))
     ·rw [if_neg Q];refine qdU (zNf (by omega)) ?_
      rw [zf (by omega)]
      obtain ⟨v,H,A⟩:=S d x l (sk s i+1) (n+1) (Int.ofNat (n+1)) (by omega) ⟨D,λ _=>⟨rfl,by omega,by omega⟩⟩
      have A:=A.2 j;cases hy:oneM s g (sk s i+1) (n+1) with
      | error e=>
       rw [hy] at A;obtain ⟨y,E,C,O,rfl⟩:=A;obtain ⟨w,T⟩:=zHy (s:=s) (x:=⟨e.1,e.2,true⟩) (l:=O) (i:=E) (n:=C) (k:=Int.ofNat 7) (a:=[]) (b:=[]) (m:=Int.ofNat 0) (p:=y) (q:=Int.negSucc 0) rfl;exact qdI H (qdI T (Wp.mk ⟨λ h=>(by rw [h] at j;cases j),λ _=>⟨_,_,_,_,rfl⟩⟩))
      | ok r=>
       obtain ⟨E,C,u⟩:=r;rw [hy] at A;have A:v=_:=A;subst A;obtain ⟨g1,g2,g3,g4,g5⟩:=zHw s g _ _ _ _ _ (show sk s i+1<=s.length by omega) (by omega) hy
       refine qdI H (qdI (zQm j (by rw [QC,RT.fl_length];omega)) (Wp.mk ⟨λ h=>(by rw [h] at j;cases j),λ _=>?_⟩))
       have e1:l++u.fl l.length++[nd6 (Int.ofNat 7) [] [] (Int.ofNat 0) (Int.ofNat (l.length+u.size-1)) (Int.negSucc 0)]=l++(RT.not u).fl l.length:=by rw [RT.fl,Qi];rfl
       have e2:(l++u.fl l.length).length=l.length+(RT.not u).size-1:=by
        rw [QC,RT.fl_length];show _=l.length+(u.size+1)-1
        omega
       show outB (.int .i64 (Int.ofNat (l++u.fl l.length).length)) s (Int.ofNat E) x (Int.ofNat C) (l++u.fl l.length++[nd6 (Int.ofNat 7) [] [] (Int.ofNat 0) (Int.ofNat (l.length+u.size-1)) (Int.negSucc 0)])=_
       rw [e1,e2]
   ·have B:¬s[sk s i]? = some 33:=λ z=>by rw [K.2 z] at h;cases h
    have J:s[sk s i]? = some 40:=(R.1 W).resolve_left B;have D:=zC9 J;rw [if_neg B,if_pos J,deep,zf (by omega)]
    obtain ⟨v,H,A⟩:=X d x l (sk s i+1) n m (by omega) ⟨D,F.2⟩
    by_cases j:x.b=true
    ·obtain ⟨y,E,C,O,rfl⟩:=A.1 j;refine qdI H (Wp.if (λ h=>by rw [j] at h;cases h) λ _=>zN2.mono λ v h=>⟨λ _=>h,λ h=>by rw [h] at j;cases j⟩)
    ·have j:x.b=false:=by simpa using j
     have A:=A.2 j;obtain ⟨rfl,Y,p3⟩:=F.2 j;cases hy:orM s g (sk s i+1) n with
     | error e=>
      rw [hy] at A;obtain ⟨y,E,C,O,rfl⟩:=A;refine qdI H (Wp.if (λ h=>by cases h) λ _=>(zN2 (x:=⟨e.1,e.2,true⟩)).mono λ v h=>⟨λ h=>(by rw [h] at j;cases j),λ _=>?_⟩)
      show OutP s l x (zKo s (orM s g (sk s i+1) n)) v
      rw [hy];exact h
     | ok r=>
      obtain ⟨E,C,u⟩:=r;rw [hy] at A;have A:v=_:=A;subst A;obtain ⟨g1,g2,_⟩:=zL2 s g _ _ _ _ _ (show sk s i+1<=s.length by omega) Y hy
      refine qdI H ((zTl hs d j E C u g2).mono λ v h=>⟨λ h=>(by rw [h] at j;cases j),λ _=>?_⟩)
      show OutP s l x (zKo s (orM s g (sk s i+1) n)) v
      rw [hy];exact h
   ·have B:¬s[sk s i]? = some 33:=λ z=>by rw [R.2 (.inl z)] at I;cases I
    have J:¬s[sk s i]? = some 40:=λ z=>by rw [R.2 (.inr z)] at I;cases I
    rw [if_neg B,if_neg J];exact zQn hs ⟨V,F.2⟩
  refine Wp.if (λ h=>U _ ⟨λ _=>.inl (K.1 h),λ _=>rfl⟩) λ h=>U _ ⟨λ z=>.inr (c40.1 z),λ z=>?_⟩
  rcases z with z | z
  ·rw [K.2 z] at h;cases h
  ·exact c40.2 z
theorem zWY {s:List Nat} (hs:s.length<=65536):POr s 32:=or_P hs (zUC hs (zWX hs 32 (QB _)))
def dec (n:Nat):List Nat:=(Lib.decDigits n).map UInt8.toNat
theorem zKr (n:Nat):dec n=if n<10 then [48+n] else dec (n / 10)++[48+n % 10]:=by
 unfold dec;rw [Lib.decDigits];by_cases h:n<10
 ·rw [dif_pos h,if_pos h];simp only [Qd,List.map_nil,zKT h]
 ·rw [dif_neg h,if_neg h,List.map_append];simp only [Qd,List.map_nil,zKT (Nat.mod_lt n (by decide:0<10))]
theorem zQo (n:Nat):decI (n:Int)=dec n:=by
 unfold decI Lib.itoa dec;rw [if_neg (by omega),Int.toNat_natCast]
theorem zCq (n:Nat) (h:n<=9223372036854775807):(dec n).length<=21:=by
 have:=Lib.itoa_length_le (n:Int) (by omega) (by omega)
 unfold Lib.itoa at this;rw [if_neg (by omega),Int.toNat_natCast] at this
 unfold dec;rw [Qb];exact this
theorem zQp (n:Int) (f:-9223372036854775808<=n) (e:n<=9223372036854775807):(decI n).length<=21:=by
 unfold decI;rw [Qb];exact Lib.itoa_length_le n f e
theorem zUi (n:Int) (f:-9223372036854775808<=n) (e:n<=9223372036854775807):zBE n (Int.ofNat 10)=some (.str (decI n)):=by
 show (match ((Int.ofNat 10==10)&&decide (-9223372036854775808<=n/\n<=9223372036854775807)) with | true=>some (AV.str ((Lib.itoa n).map UInt8.toNat)) | false=>none)=_
 rw [QL (⟨f,e⟩:-9223372036854775808<=n/\n<=9223372036854775807)];rfl
theorem zKX (k:Nat) (h:k<10):zAN (chunks 1 1 (qm [AV.int IntKind.u8 (Int.ofNat 0)] 0 (AV.cells (AV.int IntKind.u8 (wrapx IntKind.u8 (wrapx IntKind.i64 (48+(k:Int))))))))=some [48+k]:=by
 match k,h with
 | 0,_ | 1,_ | 2,_ | 3,_ | 4,_ | 5,_ | 6,_ | 7,_ | 8,_ | 9,_=>rfl
theorem zN3 (n:Nat) (p:n<=9223372036854775807):∀d:Nat,n<d->zA7 d (n:Int)=some (.str (dec n)):=by
 induction n using Nat.strongRecOn with
 | ind n f=>
  intro d j;obtain ⟨d,rfl⟩:∃k,d=k+1:=⟨d-1,by omega⟩
  refine zi ?_
  rw [zHB];refine Wp.ite (λ h=>?_) λ h=>?_
  ·have h:n<10:=by omega
   rw [zKX n h,zKr,if_pos h];exact Wp.mk rfl
  ·have h:¬n<10:=by omega
   have e:wrapx .i64 (Int.tdiv (n:Int) 10)=((n / 10:Nat):Int):=by
    rw [show Int.tdiv (n:Int) 10=((n / 10:Nat):Int) from rfl,zT (by omega) (by omega)]
   have g:Int.tmod (n:Int) 10=((n % 10:Nat):Int):=rfl;rw [e,g];refine qk_s (f (n / 10) (by omega) (by omega) d (by omega)) ?_
   rw [zKX (n % 10) (Nat.mod_lt n (by decide)),zKr n,if_neg h]
   have:=zCq (n / 10) (by omega)
   refine Wp.gd ?_ (Wp.mk rfl)
   show (dec (n / 10)).length+1<=zc
   unfold zc;omega
def RT.bd (M:Nat):RT->Prop
 | .leaf k a b n=>a.length+b.length<=M/\-9223372036854775808<=n/\n<=9223372036854775807
 | .not t=>t.bd M
 | .two k t u=>t.bd M/\u.bd M
def RT.pos:RT->Prop
 | .leaf k a b n=>0<=n
 | .not t=>t.pos
 | .two k t u=>t.pos/\u.pos
theorem RT.wf.bd {t:RT} (h:t.wf):t.bd 56/\t.pos:=by
 induction t with
 | leaf k a b n=>
  rcases h with ⟨_,rfl,rfl,rfl⟩ | ⟨j,_,⟨_,g,rfl⟩ | ⟨_,rfl,g,q⟩ | ⟨_,rfl,rfl⟩⟩
  ·exact ⟨⟨by decide,by omega,by omega⟩,Int.le_refl _⟩
  ·exact ⟨⟨by have:=j.1;have:=g.2.1;omega,by omega,by omega⟩,Int.le_refl _⟩
  ·exact ⟨⟨by have:=j.1;simp;omega,by omega,by omega⟩,g⟩
  ·exact ⟨⟨by have:=j.1;simp;omega,by omega,by omega⟩,Int.le_refl _⟩
 | not t p=>exact p h
 | two k t u e f=>exact ⟨⟨(e h.2.1).1,(f h.2.2).1⟩,(e h.2.1).2,(f h.2.2).2⟩
theorem zBV (g m:Int) (s:List Nat):(parT g m s).length<=s.length+2:=by
 unfold parT;split
 ·simp only [QC,QK,QS];omega
 ·omega
theorem zTm {k:Int} {a b:List Nat} {n:Int} {M:Nat} (h:a.length+b.length<=M) (f:-9223372036854775808<=n) (e:n<=9223372036854775807):(zHO k a b n).length<=M+24:=by
 have:=zQp n f e;unfold zHO
 repeat' split
 all_goals try simp only [QC,QK,QS]
 all_goals omega
theorem zEy {M:Nat}:∀{t:RT},t.bd M->t.told.length<=t.size*(M+40)
 | .leaf k a b n,h=>by
  have:=zTm (k:=k) h.1 h.2.1 h.2.2;show (zHO k a b n).length<=1*(M+40)
  omega
 | .not t,h=>by
  have:=zEy (t:=t) h;have:=zBV t.tg 2 t.told;show ([33]++parT t.tg 2 t.told).length<=(t.size+1)*(M+40)
  rw [Nat.add_mul];simp only [QC,QK,QS];omega
 | .two k t u,h=>by
  have w:=zEy (t:=t) h.1;have q:=zEy (t:=u) h.2;have e:(t.size+u.size+1)*(M+40)=t.size*(M+40)+u.size*(M+40)+(M+40):=by rw [Nat.add_mul,Nat.add_mul,Nat.one_mul]
  have j:=zBV t.tg 1 t.told;have v:=zBV u.tg 2 u.told;have g:=zBV t.tg 0 t.told;have p:=zBV u.tg 1 u.told;show (RT.two k t u).told.length<=(t.size+u.size+1)*(M+40)
  rw [e,RT.told];by_cases f:k=8
  ·rw [if_pos f];simp only [QC,QK,QS];omega
  ·rw [if_neg f];simp only [QC,QK,QS];omega
def Seg (es:List AV) (t:RT) (o:Nat):Prop:=∀j,j<t.size->es[o+j]? = (t.fl o)[j]?
theorem Seg.whole (t:RT):Seg (t.fl 0) t 0:=λ j _=>by rw [QV]
theorem Seg.leaf {es:List AV} {o:Nat} {k:Int} {a b:List Nat} {n:Int} (h:Seg es (.leaf k a b n) o):es[o]? = some (nd6 k a b n (Int.negSucc 0) (Int.negSucc 0)):=h 0 Nat.one_pos
theorem Seg.not {es:List AV} {o:Nat} {t:RT} (h:Seg es (.not t) o):Seg es t o/\es[o+t.size]? = some (nd6 7 [] [] (Int.ofNat 0) (Int.ofNat (o+t.size-1)) (Int.negSucc 0)):=by
 have e:(RT.not t).size=t.size+1:=rfl;refine ⟨λ j f=>?_,?_⟩
 ·rw [h j (by omega),RT.fl,Qv (by rw [RT.fl_length];omega)]
 ·rw [h t.size (by omega),RT.fl,List.getElem?_append_right (by rw [RT.fl_length];omega),RT.fl_length,Nat.sub_self]
  rfl
theorem Seg.two {es:List AV} {o:Nat} {k:Int} {t u:RT} (h:Seg es (.two k t u) o):Seg es t o/\Seg es u (o+t.size)/\es[o+t.size+u.size]? = some (nd6 k [] [] (Int.ofNat 0) (Int.ofNat (o+t.size-1)) (Int.ofNat (o+t.size+u.size-1))):=by
 have g:(RT.two k t u).size=t.size+u.size+1:=rfl;refine ⟨λ j f=>?_,λ j f=>?_,?_⟩
 ·rw [h j (by omega),RT.fl,Qv (by rw [QC,RT.fl_length];omega),Qv (by rw [RT.fl_length];omega)]
 ·rw [show o+t.size+j=o+(t.size+j) by omega,h (t.size+j) (by omega),RT.fl,Qv (by rw [QC,RT.fl_length,RT.fl_length];omega),List.getElem?_append_right (by rw [RT.fl_length];omega),RT.fl_length]
  congr 1;omega
 ·have e:=h (t.size+u.size) (by omega)
  rw [←Nat.add_assoc] at e;rw [e,RT.fl,List.getElem?_append_right (by rw [QC,RT.fl_length,RT.fl_length];omega),QC,RT.fl_length,RT.fl_length,Nat.sub_self]
  rfl
theorem zTn (k:Int) (a b:List Nat) (n l r:Int):zBj k a b n l r=some (.int .i64 (if k=9 then 0 else if k=8 then 1 else 2)):=by
 refine zi ?_
 rw [zEt];refine Wp.if (λ h=>Wp.mk ?_) λ h=>Wp.if (λ e=>Wp.mk ?_) λ e=>Wp.mk ?_
 ·rw [if_pos (by simpa using h)];rfl
 ·rw [if_neg (by simpa using h),if_pos (by simpa using e)];rfl
 ·rw [if_neg (by simpa using h),if_neg (by simpa using e)];rfl
theorem zJR {d:Nat} {m k:Int} {s a b:List Nat} {n l r:Int} {g:Int} (e:(if k=9 then (0:Int) else if k=8 then 1 else 2)=g) (hs:s.length<=9000000000000000000):zh d m s k a b n l r=some (.str (parT g m s)):=by
 refine zi ?_
 rw [zD7];refine qk_i (zTn k a b n l r) ?_
 rw [e];have m0:zc=9223372036854775807:=rfl;unfold parT;refine Wp.ite (λ h=>Wp.gd ?_ (Wp.gd ?_ (Wp.mk ?_))) λ h=>Wp.mk ?_
 ·simp only [QK,QS];omega
 ·simp only [QC,QK,QS];omega
 ·rw [if_pos h]
 ·rw [if_neg h]
def RT.kd:RT->Prop
 | .leaf k a b n=>1<=k/\k<=6
 | .not t=>t.kd
 | .two k t u=>(k=8\/k=9)/\t.kd/\u.kd
theorem RT.wf.kd {t:RT} (h:t.wf):t.kd:=by
 induction t with
 | leaf k a b n=>
  rcases h with ⟨rfl,_⟩ | ⟨_,_,⟨rfl | rfl,_⟩ | ⟨rfl | rfl,_⟩ | ⟨rfl,_⟩⟩ <;> exact ⟨by decide,by decide⟩
 | not t g=>exact g h
 | two k t u e f=>exact ⟨h.1,e h.2.1,f h.2.2⟩
theorem zBB {es:List AV} {j:Nat} {k n l r:Int} {a b:List Nat} (h:es[j]? = some (nd6 k a b n l r)) {β:Type} {P:β->Prop} {wk:Bool} {f:Int->List Nat->List Nat->Int->Int->Int->Option β} (p:Wp (f k a b n l r) P):Wp (dK wk [K.agg 6,K.i IntKind.i64,K.s,K.s,K.i IntKind.i64,K.i IntKind.i64,K.i IntKind.i64] (ixN es (Int.ofNat j)) f) P:=zB5 (zKl.trans h) p
theorem zNg {es:List AV} {M:Nat} (hM:M<=5000000):∀(t:RT) (o d:Nat) (m:Int),t.size<=d->t.size<=1000->Seg es t o->t.bd M->t.pos->t.kd->zl d es (Int.ofNat (o+t.size-1)) m=some (.str (parT t.tg m t.told)):=by
 have m0:zc=9223372036854775807:=rfl;intro t
 induction t with
 | leaf k a b n=>
  intro o d m S T hs y I z;have j:(RT.leaf k a b n).size=1:=rfl;obtain ⟨d,rfl⟩:∃e,d=e+1:=⟨d-1,by omega⟩
  refine zi ?_
  rw [zBS,j,show o+1-1=o by omega]
  refine zBB hs.leaf ?_
  have B:1<=k:=z.1;have ab:k<=6:=z.2;have R:0<=n:=I;obtain ⟨C,rfl⟩:=Int.eq_ofNat_of_zero_le R;obtain ⟨q,p,ae⟩:=y;have A:=zN3 C (by omega) FUEL (zx (by omega))
  have ac:=zCq C (by omega)
  have X:(RT.leaf k a b (C:Int)).tg=2:=rfl;have f:∀w:List Nat,w=zHO k a b C->w.length<=9000000000000000000->Wp (zh d m w k a b (C:Int) (Int.negSucc 0) (Int.negSucc 0)) λ v=>v=.str (parT (RT.leaf k a b (C:Int)).tg m (RT.leaf k a b (C:Int)).told):=λ w hw V=>by
   have W:(if k=9 then (0:Int) else if k=8 then 1 else 2)=2:=by rw [if_neg (by omega),if_neg (by omega)]
   refine ⟨_,zJR W V,?_⟩
   rw [hw];rfl
  unfold zHO at f;refine Wp.if (λ h=>f _ ?_ (by simp)) λ h1=>Wp.if (λ h=>Wp.gd ?_ (Wp.gd ?_ (f _ ?_ ?_))) λ h2=>Wp.if (λ h=>Wp.gd ?_ (Wp.gd ?_ (f _ ?_ ?_))) λ h3=>Wp.if (λ h=>Wp.gd ?_ (qk_s A (Wp.gd ?_ (f _ ?_ ?_)))) λ h4=>Wp.if (λ h=>Wp.gd ?_ (qk_s A (Wp.gd ?_ (f _ ?_ ?_)))) λ h5=>Wp.if (λ h=>f _ ?_ ?_) λ h6=>?_
  all_goals simp only [beq_iff_eq,beq_eq_false_iff_ne,ne_eq] at *
  all_goals first
   | (simp only [QC,QK,QS];omega)
   | (subst h;simp [zQo];done)
   | omega
 | not t ih=>
  intro o d m S T hs y I z;have j:(RT.not t).size=t.size+1:=rfl;have:=t.size_pos;obtain ⟨d,rfl⟩:∃e,d=e+1:=⟨d-1,by omega⟩
  refine zi ?_
  rw [zBS,j,show o+(t.size+1)-1=o+t.size by omega]
  obtain ⟨O,K⟩:=hs.not;refine zBB K ?_
  have y:t.bd M:=y;have V:=zEy y;have Q:=zBV t.tg 2 t.told;have U:t.size*(M+40)<=1000*5000040:=Nat.mul_le_mul (by omega) (by omega)
  refine Wp.if (λ h=>by cases h) λ _=>Wp.if (λ h=>by cases h) λ _=>Wp.if (λ h=>by cases h) λ _=>Wp.if (λ h=>by cases h) λ _=>Wp.if (λ h=>by cases h) λ _=>Wp.if (λ h=>by cases h) λ _=>Wp.if (λ _=>?_) λ h=>by cases h
  refine qk_s (ih o d 2 (by omega) (by omega) O y I z) (Wp.gd ?_ ⟨_,zJR (g:=2) rfl ?_,rfl⟩)
  ·simp only [QK,QS];omega
  ·simp only [QC,QK,QS];omega
 | two k t u J F=>
  intro o d m S T hs y I z;have j:(RT.two k t u).size=t.size+u.size+1:=rfl;have:=t.size_pos;have:=u.size_pos;obtain ⟨d,rfl⟩:∃e,d=e+1:=⟨d-1,by omega⟩
  refine zi ?_
  rw [zBS,j,show o+(t.size+u.size+1)-1=o+t.size+u.size by omega]
  obtain ⟨O,K,s3⟩:=hs.two;refine zBB s3 ?_
  obtain ⟨q,p⟩:=y;obtain ⟨D,H⟩:=I;obtain ⟨z,B,E⟩:=z;have ad:=zEy q;have Q:=zEy p;have Y:t.size*(M+40)<=1000*5000040:=Nat.mul_le_mul (by omega) (by omega)
  have aa:u.size*(M+40)<=1000*5000040:=Nat.mul_le_mul (by omega) (by omega)
  have p1:=zBV t.tg 1 t.told;have p2:=zBV u.tg 2 u.told;have p3:=zBV t.tg 0 t.told;have p4:=zBV u.tg 1 u.told;rcases z with rfl | rfl
  ·refine Wp.if (λ h=>by cases h) λ _=>Wp.if (λ h=>by cases h) λ _=>Wp.if (λ h=>by cases h) λ _=>Wp.if (λ h=>by cases h) λ _=>Wp.if (λ h=>by cases h) λ _=>Wp.if (λ h=>by cases h) λ _=>Wp.if (λ h=>by cases h) λ _=>Wp.if (λ _=>?_) λ h=>by cases h
   refine qk_s (J o d 1 (by omega) (by omega) O q D B) (Wp.gd ?_ (qk_s (F (o+t.size) d 2 (by omega) (by omega) K p H E) (Wp.gd ?_ ⟨_,zJR (g:=1) rfl ?_,rfl⟩)))
   all_goals simp only [QC,QK,QS]
   all_goals omega
  ·refine Wp.if (λ h=>by cases h) λ _=>Wp.if (λ h=>by cases h) λ _=>Wp.if (λ h=>by cases h) λ _=>Wp.if (λ h=>by cases h) λ _=>Wp.if (λ h=>by cases h) λ _=>Wp.if (λ h=>by cases h) λ _=>Wp.if (λ h=>by cases h) λ _=>Wp.if (λ h=>by cases h) λ _=>Wp.if (λ _=>?_) λ h=>by cases h
   refine qk_s (J o d 0 (by omega) (by omega) O q D B) (Wp.gd ?_ (qk_s (F (o+t.size) d 1 (by omega) (by omega) K p H E) (Wp.gd ?_ ⟨_,zJR (g:=0) rfl ?_,rfl⟩)))
   all_goals simp only [QC,QK,QS]
   all_goals omega
noncomputable def parR (r:RE RT):AV:=match r with
 | .ok t=>.qf [.agg [.qp 6 (t.fl 0)],.agg [.int .i64 (Int.ofNat 0),.int .i64 (Int.ofNat 0)]]
 | .error (e,f)=>.qf [.agg [.qa],.agg [.int .i64 e,.int .i64 f]]
theorem zQq {s:List Nat} {x:FL} {i n p q:Int} {l:List AV}:zAI s i x.e x.f x.b n p q l=some (if x.b=true then .qf [.agg [.qa],.agg [.int .i64 x.e,.int .i64 x.f]] else .qf [.agg [.qp 6 l],.agg [.int .i64 (Int.ofNat 0),.int .i64 (Int.ofNat 0)]]):=by
 refine zi ?_
 rw [zG6];refine Wp.if (λ h=>Wp.mk ?_) λ h=>Wp.mk ?_
 ·rw [if_pos h]
 ·rw [if_neg (by rw [h];decide)]
theorem zRu {s:List Nat} {x:FL} {i n p q:Int} {l:List AV} (g:x.b=true):zBD s i x.e x.f x.b n p q l=some (.qf [.agg [.qa],.agg [.int .i64 x.e,.int .i64 x.f]]):=by
 refine zi ?_
 rw [zDX];refine Wp.if (λ h=>by rw [g] at h;cases h) λ _=>?_
 rw [zQq,if_pos g];exact Wp.mk rfl
theorem zO4 (s:List Nat):zDA s=some (parR (zDq s)):=by
 refine zi ?_
 rw [zH3];unfold zDq;refine Wp.ite (λ h=>Wp.mk ?_) λ h=>?_
 ·rw [if_pos (by rw [qr] at h;omega)];rfl
 have hs:s.length<=1024:=by rw [qr] at h;omega
 rw [if_neg (by omega)]
 obtain ⟨v,z,j⟩:=zWY (s:=s) (by omega) FUEL ⟨0,0,false⟩ [] 0 0 0 (Qh (zx (by omega))) ⟨QR _,λ _=>⟨rfl,by omega,QB _⟩⟩
 have j:=j.2 rfl;cases hx:orM s 32 0 0 with
 | error e=>
  rw [hx] at j;obtain ⟨y,E,B,D,rfl⟩:=j;refine qdI z (Wp.if (λ h=>by cases h) λ _=>Wp.if (λ h=>by cases h) λ _=>?_)
  rw [zCe];refine Wp.if (λ h=>by cases h) λ _=>⟨_,zRu (x:=⟨e.1,e.2,true⟩) rfl,rfl⟩
 | ok r=>
  obtain ⟨i,n,t⟩:=r;rw [hx] at j;have j:v=_:=j;subst j;obtain ⟨g1,g2,g3,g4,g5⟩:=zL2 s 32 _ _ _ _ _ (QR _) (by omega) hx
  have C:=zAD g2;have p:=t.size_pos;refine qdI z (Wp.if (λ _=>qd8 (zJd (by omega) ⟨0,0,false⟩ _ _ i g2) ?_) λ h=>by cases h)
  have ok:s.length<=sk s i->Wp (zC false s (Int.ofNat (sk s i)) 0 0 false (Int.ofNat n) (Int.ofNat 0) (Int.ofNat 0) ([]++t.fl ([]:List AV).length)) λ v=>v=parR (if sk s i<s.length then .error (5,Int.ofNat (sk s i)) else if 1024<t.told.length then .error (3,Int.negSucc 0) else .ok t):=λ A=>by
   rw [zCe,if_neg (by omega)]
   refine Wp.if (λ h=>by cases h) λ _=>?_
   rw [zDX];refine Wp.if (λ _=>?_) λ h=>by cases h
   have q:([]++t.fl ([]:List AV).length:List AV).length=t.size:=by rw [List.nil_append,RT.fl_length]
   have g:=zNg (es:=[]++t.fl ([]:List AV).length) (M:=56) (by decide) t 0 FUEL 0 (Qh (zx (by omega))) (by omega) (Seg.whole t) g5.bd.1 g5.bd.2 g5.kd
   have w:parT t.tg 0 t.told=t.told:=by
    unfold parT;have:¬t.tg<0:=by
     unfold RT.tg;split
     ·repeat' split
      all_goals decide
     ·decide
    rw [if_neg this]
   rw [w,QV] at g;rw [q,zA5 p (by omega)]
   refine qk_s g (Wp.ite (λ h=>qdU (zEK ⟨0,0,false⟩ _ _ 3 _ _) ?_) λ h=>?_)
   ·rw [if_pos (by rw [qr] at h;omega)]
    rw [FL.qt rfl];rw [zQq (x:=⟨3,Int.negSucc 0,true⟩)];exact Wp.mk rfl
   ·rw [if_neg (by rw [qr] at h;omega)]
    rw [zQq (x:=⟨0,0,false⟩)];exact Wp.mk rfl
  have bad:sk s i<s.length->Wp (zC true s (Int.ofNat (sk s i)) 0 0 false (Int.ofNat n) (Int.ofNat 0) (Int.ofNat 0) ([]++t.fl ([]:List AV).length)) λ v=>v=parR (if sk s i<s.length then .error (5,Int.ofNat (sk s i)) else if 1024<t.told.length then .error (3,Int.negSucc 0) else .ok t):=λ f=>by
   rw [zCe,if_pos f];refine Wp.if (λ _=>qdU (zEK ⟨0,0,false⟩ _ _ 5 _ _) ?_) λ h=>by cases h
   rw [FL.qt rfl];exact ⟨_,zRu (x:=⟨5,Int.ofNat (sk s i),true⟩) rfl,rfl⟩
  have tail:Wp (zC (decide (Int.ofNat (sk s i)<Int.ofNat s.length)) s (Int.ofNat (sk s i)) 0 0 false (Int.ofNat n) (Int.ofNat 0) (Int.ofNat 0) ([]++t.fl ([]:List AV).length)) λ v=>v=parR (if sk s i<s.length then .error (5,Int.ofNat (sk s i)) else if 1024<t.told.length then .error (3,Int.negSucc 0) else .ok t):=by
   by_cases f:sk s i<s.length
   ·rw [QL (show Int.ofNat (sk s i)<Int.ofNat s.length from Int.ofNat_lt.2 f)];exact bad f
   ·rw [QN (show ¬Int.ofNat (sk s i)<Int.ofNat s.length from λ h=>f (Int.ofNat_lt.1 h))];exact ok (by omega)
  refine Wp.if (λ h=>bad ?_) λ _=>Wp.if (λ _=>tail) λ h=>by cases h
  by_cases f:sk s i<s.length
  ·exact f
  ·exfalso
   have:pk s i=0:=by unfold pk;rw [List.getElem?_eq_none (by omega)];rfl
   rw [this] at h;cases h
structure FA where
 e:Int
 f:Int
def FA.ok (x:FA):Bool:=x.e==0&&x.f==0
def FA.fail (x:FA) (e f:Int):FA:=if x.ok=true then ⟨e,f⟩ else x
theorem FA.qH {x:FA} (h:x.ok=false) (e f:Int):x.fail e f=x:=if_neg (by rw [h];decide)
theorem FA.qt {x:FA} (h:x.ok=true) (e f:Int):x.fail e f=⟨e,f⟩:=if_pos h
theorem FA.zero {x:FA} (h:x.ok=true):x=⟨0,0⟩:=by
 obtain ⟨e,f⟩:=x;unfold FA.ok at h;simp at h;rw [h.1,h.2]
theorem fa5 (f:Int):(FA.mk 5 f).ok=false:=rfl
theorem fa3 (f:Int):(FA.mk 3 f).ok=false:=rfl
abbrev outA (v:AV) (s:List Nat) (i dp n:Int) (x:FA) (l:List AV):AV×Heap×Vecs:=(v,[(0,HO.cells false [.str s,.int .i64 i,.int .i64 dp,.int .i64 n,AV.sym 0,.int .i64 x.e,.int .i64 x.f])],[(0,VI.vec 6 l)])
section
variable {β:Type} {wk:Bool} {P:β->Prop} {o:Option (AV×Heap×Vecs)} {s:List Nat} {i dp:Int} {x:FA} {n:Int} {l:List AV}
theorem adU {f:List Nat->Int->Int->Int->Int->Int->List AV->Option β} (h:o=some (outA (.qf []) s i dp n x l)) (k:Wp (f s i dp n x.e x.f l) P):Wp (dD wk [D.v (K.qf 0),D.hc 0 false 7,D.v K.s,D.v (K.i IntKind.i64),D.v (K.i IntKind.i64),D.v (K.i IntKind.i64),D.v (K.c (AV.sym 0)),D.v (K.i IntKind.i64),D.v (K.i IntKind.i64),D.vec 0 6] o f) P:=by
 subst h;exact k
theorem adB {y:Bool} {f:Bool->List Nat->Int->Int->Int->Int->Int->List AV->Option β} (h:o=some (outA (.bool y) s i dp n x l)) (k:Wp (f y s i dp n x.e x.f l) P):Wp (dD wk [D.v K.b,D.hc 0 false 7,D.v K.s,D.v (K.i IntKind.i64),D.v (K.i IntKind.i64),D.v (K.i IntKind.i64),D.v (K.c (AV.sym 0)),D.v (K.i IntKind.i64),D.v (K.i IntKind.i64),D.vec 0 6] o f) P:=by
 subst h;exact k
theorem adI {y:Int} {f:Int->List Nat->Int->Int->Int->Int->Int->List AV->Option β} (h:o=some (outA (.int .i64 y) s i dp n x l)) (k:Wp (f y s i dp n x.e x.f l) P):Wp (dD wk [D.v (K.i IntKind.i64),D.hc 0 false 7,D.v K.s,D.v (K.i IntKind.i64),D.v (K.i IntKind.i64),D.v (K.i IntKind.i64),D.v (K.c (AV.sym 0)),D.v (K.i IntKind.i64),D.v (K.i IntKind.i64),D.vec 0 6] o f) P:=by
 subst h;exact k
theorem adS {y:List Nat} {f:List Nat->List Nat->Int->Int->Int->Int->Int->List AV->Option β} (h:o=some (outA (.str y) s i dp n x l)) (k:Wp (f y s i dp n x.e x.f l) P):Wp (dD wk [D.v K.s,D.hc 0 false 7,D.v K.s,D.v (K.i IntKind.i64),D.v (K.i IntKind.i64),D.v (K.i IntKind.i64),D.v (K.c (AV.sym 0)),D.v (K.i IntKind.i64),D.v (K.i IntKind.i64),D.vec 0 6] o f) P:=by
 subst h;exact k
end
def letB (c:Nat):Bool:=decide (97<=c/\c<=122\/65<=c/\c<=90)
theorem zWZ:∀c,c<256->(decide (IntKind.wrap IntKind.u8 ↑(BitVec.toNat (BitVec.ofInt (IntKind.bits IntKind.u8) (Int.ofNat c) ||| BitVec.ofInt (IntKind.bits IntKind.u8) 32))>=97)&&decide (IntKind.wrap IntKind.u8 ↑(BitVec.toNat (BitVec.ofInt (IntKind.bits IntKind.u8) (Int.ofNat c) ||| BitVec.ofInt (IntKind.bits IntKind.u8) 32))<=122))=letB c:=by decide +kernel
theorem ib3B:∀c,c<256->decide (0<=Lib.indexByte ([45,95,46].map UInt8.ofNat) (UInt8.ofNat c))=decide (c=45\/c=95\/c=46):=by decide +kernel
theorem zO5 (c:Nat) (h8:c<256):zDN (Int.ofNat c)=some (.bool (wrdB c)):=by
 have f:zH8 (Int.ofNat c)=some (.bool (letB c)):=by
  rw [←zWZ c h8];refine zi ?_
  rw [zNk];refine Wp.ite (λ h=>Wp.mk ?_) λ h=>Wp.mk ?_
  ·rw [QL h];rfl
  ·rw [QN h];rfl
 refine zi ?_
 rw [zNl];refine qk_b f (Wp.if (λ h=>Wp.mk ?_) λ h=>qk_b (zKU _) (Wp.if (λ e=>Wp.mk ?_) λ e=>?_))
 ·have h:=QO h;refine congrArg AV.bool ?_
  unfold wrdB;exact (QL (by omega)).symm
 ·have e:=QO e;rw [qr] at e;refine congrArg AV.bool ?_
  unfold wrdB;exact (QL (by omega)).symm
 ·have h:=Qq h;have e:=Qq e;rw [qr] at e;refine qk_i (show zHm [45,95,46] (Int.ofNat c)=some (.int .i64 (Lib.indexByte ([45,95,46].map UInt8.ofNat) (UInt8.ofNat c))) from rfl) (Wp.mk ?_)
  refine congrArg AV.bool ?_
  rw [show (decide (Lib.indexByte ([45,95,46].map UInt8.ofNat) (UInt8.ofNat c)>=0))=decide (0<=Lib.indexByte ([45,95,46].map UInt8.ofNat) (UInt8.ofNat c)) from rfl,ib3B c h8]
  unfold wrdB;exact decide_eq_decide.2 (by omega)
theorem zUj (c:Nat):zEA (Int.ofNat c)=some (.bool (namB c)):=by
 refine zi ?_
 rw [zJv]
 repeat' first | refine Wp.ite (λ _=>?_) (λ _=>?_) | refine Wp.if (λ _=>?_) (λ _=>?_) | refine qk_b (zKU _) ?_ | refine Wp.mk ?_
 all_goals simp only [qr,decide_eq_true_eq,decide_eq_false_iff_not] at *
 all_goals refine congrArg AV.bool ?_
 all_goals unfold namB lowB digB
 all_goals rw [Bool.eq_iff_iff]
 all_goals simp
 all_goals omega
theorem zVH (c:Nat):zDs (Int.ofNat c)=some (.bool (digB c)):=by
 rw [zKU];unfold digB;congr 2;exact decide_eq_decide.2 (by rw [qr];omega)
def pfx (s:List Nat) (j:Nat) (t:List Nat):Bool:=decide (List.take t.length (List.drop j s)=t)
theorem pfx1 {s:List Nat} {j c:Nat}:pfx s j [c]=true↔s[j]? = some c:=by
 unfold pfx;rw [decide_eq_true_iff]
 constructor
 ·intro h;have:(List.take 1 (List.drop j s))[0]? = s[j]?:=by rw [List.getElem?_take_of_lt (by omega),List.getElem?_drop];rfl
  rw [←this];have h:List.take 1 (List.drop j s)=[c]:=h;rw [h];rfl
 ·intro h;obtain ⟨f,e⟩:=QD.1 h;rw [Qg f,e];rfl
theorem pfx2 {s:List Nat} {j c d:Nat}:pfx s j [c,d]=true↔s[j]? = some c/\s[j+1]? = some d:=by
 unfold pfx;rw [decide_eq_true_iff]
 constructor
 ·intro h;have f:(List.take 2 (List.drop j s))[0]? = s[j]?:=by rw [List.getElem?_take_of_lt (by omega),List.getElem?_drop];rfl
  have e:(List.take 2 (List.drop j s))[1]? = s[j+1]?:=by rw [List.getElem?_take_of_lt (by omega),List.getElem?_drop]
  rw [←f,←e];have h:List.take 2 (List.drop j s)=[c,d]:=h;rw [h];exact ⟨rfl,rfl⟩
 ·intro h;obtain ⟨f,g⟩:=QD.1 h.1;obtain ⟨e,p⟩:=QD.1 h.2;rw [Qg f,Qg e,g,p];rfl
theorem zQr (t u:List Nat):zEX t u=some (.bool (decide (List.take u.length t=u))):=by
 refine zi ?_
 rw [zJ8];have h:zBW t u=some (.bool (decide (List.take u.length t=u))):=by
  refine zi ?_
  rw [zFH];refine Wp.ite (λ h=>Wp.gd ⟨Qa _,h⟩ (Wp.mk ?_)) λ h=>Wp.mk ?_
  ·rw [zAP];rfl
  ·have h:¬u.length<=t.length:=λ f=>h (Qp.2 f)
   rw [QN];intro e;have:=congrArg List.length e;rw [Qm] at this;omega
 exact qk_b h (Wp.mk rfl)
section
variable {s:List Nat} (hs:s.length<=65536) (x:FA) (dp n:Int) (l:List AV)
include hs
theorem zCr (i:Nat) (q:i<=s.length):z0 s (Int.ofNat i) dp n x.e x.f l=some (outA (.qf []) s (Int.ofNat (sk s i)) dp n x l):=by
 have loop:∀(m i:Nat),i<=s.length->s.length-i<m->zCm m s (Int.ofNat i) dp n x.e x.f l=some (outA (.qf []) s (Int.ofNat (sk s i)) dp n x l):=by
  intro m
  induction m with
  | zero=>intro i _ h;omega
  | succ m v=>
   intro i q w;refine zi ?_
   rw [zIa];refine Wp.lt (λ g=>Wp.bd (R:=λ c=>c=s[i]) ⟨_,zA4 g,rfl⟩ λ c hc=>Wp.if (λ h=>?_) λ h=>?_) λ p=>Wp.mk ?_
   ·subst hc;have j:isAt (·==32) s i=true:=by rw [zAX g];exact beq_iff_eq.2 ((beqN (y:=32)).1 h)
    rw [zH9,zf (by omega),v (i+1) g (by omega)]
    refine Wp.mk ?_
    unfold sk;rw [zFD j,show i+1+rn (·==32) s (i+1)=i+(rn (·==32) s (i+1)+1) by omega]
   ·subst hc;have j:isAt (·==32) s i=false:=by rw [zAX g];exact beq_eq_false_iff_ne.2 ((zIG (y:=32)).1 h)
    refine Wp.mk ?_
    rw [zID j]
   ·rw [zID (zCb p)]
 rw [zJu];exact loop FUEL i q (by have:=zx (n:=65537) (by omega);omega)
theorem a_is (t:List Nat) (i:Nat) (g:i<=s.length):zm t s (Int.ofNat i) dp n x.e x.f l=some (outA (.bool (pfx s (sk s i) t)) s (if pfx s (sk s i) t=true then Int.ofNat (sk s i+t.length) else Int.ofNat (sk s i)) dp n x l):=by
 refine zi ?_
 have j:=zAD g;rw [zLi];refine adU (zCr hs x dp n l i g) (Wp.gd ⟨Qa _,Qp.2 j⟩ ?_)
 have e:List.drop (Int.toNat (Int.ofNat (sk s i))) (List.take (Int.toNat (Int.ofNat s.length)) s)=List.drop (sk s i) s:=by
  show List.drop (sk s i) (List.take s.length s)=_
  rw [List.take_length]
 rw [e];refine qk_b (zQr _ t) (Wp.if (λ h=>Wp.mk ?_) λ h=>?_)
 ·have h:pfx s (sk s i) t=false:=by
   have h:(!(pfx s (sk s i) t))=true:=h
   simpa using h
  rw [h];rfl
 ·have h:pfx s (sk s i) t=true:=by
   have h:(!(pfx s (sk s i) t))=false:=h
   simpa using h
  rw [h,if_pos rfl];have p:sk s i+t.length<=s.length:=by
   have:=congrArg List.length (QO h);rw [Qm,Qr] at this;omega
  rw [zT (by rw [qr,qr];omega) (by rw [qr,qr];omega)]
  exact Wp.mk rfl
omit hs in
theorem zEf (e f i:Int):zD e f s i dp n x.e x.f l=some (outA (.qf []) s i dp n (x.fail e f) l):=by
 refine zi ?_
 rw [zJ9];refine Wp.if (λ h=>Wp.mk ?_) λ h=>Wp.mk ?_
 ·have h:x.ok=true:=h;rw [FA.qt h]
 ·have h:x.ok=false:=h;rw [FA.qH h]
omit hs in
theorem zKs (f i:Int):zA2 f s i dp n x.e x.f l=some (outA (.qf []) s i dp (wrapx .i64 (n+1)) (if 64<wrapx .i64 (n+1) then x.fail 3 f else x) l):=by
 refine zi ?_
 rw [zKa];refine Wp.ite (λ h=>adU (zEf x dp (wrapx .i64 (n+1)) l _ f i) (Wp.mk ?_)) λ h=>Wp.mk ?_
 ·rw [if_pos h];rfl
 ·rw [if_neg h]
omit hs in
theorem zRv (f i:Int) (h:dp+1<=32) (j:0<=dp):zDr f s i dp n x.e x.f l=some (outA (.bool true) s i (dp+1) n x l):=by
 refine zi ?_
 rw [zHn,zT (by omega) (by omega)]
 exact Wp.ite (λ g=>absurd g (by omega)) λ _=>Wp.mk rfl
omit hs in
theorem zO6 (f i:Int) (h:dp=32):zDr f s i dp n x.e x.f l=some (outA (.bool false) s i 33 n (x.fail 3 f) l):=by
 subst h;refine zi ?_
 rw [zHn,show wrapx .i64 ((32:Int)+1)=33 from rfl]
 exact Wp.ite (λ _=>adU (zEf x 33 n l 3 f i) (Wp.mk rfl)) λ h=>absurd (by decide) h
omit hs in
theorem zDU (k:Int) (a b:List Nat) (m p q i:Int) (h:x.ok=false):zAH k a b m p q s i dp n x.e x.f l=some (outA (.int .i64 (Int.negSucc 0)) s i dp n x l):=by
 refine zi ?_
 rw [zGB];refine Wp.if (λ _=>Wp.mk rfl) λ g=>?_
 have g:(!x.ok)=false:=by
  have j:(match x.ok with | true=>false | false=>true)=false:=by
   revert g
   unfold FA.ok;cases (x.e==0&&x.f==0) <;> intro g <;> first | rfl | exact g
  cases hx:x.ok with
  | true=>rfl
  | false=>rw [hx] at j;cases j
 rw [h] at g;cases g
omit hs in
theorem zEr (k:Int) (a b:List Nat) (m p q i:Int) (h:x.ok=true) (g:l.length<=64):zAH k a b m p q s i dp n x.e x.f l=some (outA (.int .i64 (Int.ofNat l.length)) s i dp n x (l++[nd6 k a b m p q])):=by
 have:=FA.zero h;subst this;refine zi ?_
 rw [zGB];refine Wp.if (λ h=>by cases h) λ _=>Wp.gd ?_ (Wp.mk ?_)
 ·show (l.length+1)*64<=zg/\l.length+1<=zg
  unfold zg;omega
 ·show outA (.int .i64 (wrapx .i64 (Int.ofNat (l++[nd6 k a b m p q]).length-1))) s i dp n ⟨0,0⟩ (l++[nd6 k a b m p q])=_
  rw [QC];have e:wrapx .i64 (Int.ofNat (l.length+[nd6 k a b m p q].length)-1)=Int.ofNat l.length:=zA5 (i:=l.length+1) (by omega) (by omega)
  rw [e]
theorem zSc (m:Nat) (hm:m<=1000) (i:Nat) (A:i<=s.length):zBh (Int.ofNat m) s (Int.ofNat i) dp n x.e x.f l=some (outA (.str (cutS s i (i+min m (rn namB s i)))) s (Int.ofNat (i+min m (rn namB s i))) dp n x l):=by
 have E:=zDR namB s i A;have loop:∀(w t:Nat),t<=min m (rn namB s i)->s.length-(i+t)<w->z5 w (Int.ofNat m) (Int.ofNat i) s (Int.ofNat (i+t)) dp n x.e x.f l=some (outA (.str (cutS s i (i+min m (rn namB s i)))) s (Int.ofNat (i+min m (rn namB s i))) dp n x l):=by
  intro w
  induction w with
  | zero=>intro t _ h;omega
  | succ w B=>
   intro t C D;refine zi ?_
   have q:t=min m (rn namB s i)->Wp (gd (decide (0<=Int.ofNat i/\Int.ofNat i<=Int.ofNat (i+t)/\Int.ofNat (i+t)<=Int.ofNat s.length)) (some (AV.str (List.drop (Int.toNat (Int.ofNat i)) (List.take (Int.toNat (Int.ofNat (i+t))) s)),[(0,HO.cells false [.str s,.int .i64 (Int.ofNat (i+t)),.int .i64 dp,.int .i64 n,AV.sym 0,.int .i64 x.e,.int .i64 x.f])],[(0,VI.vec 6 l)]))) λ v=>v=outA (.str (cutS s i (i+min m (rn namB s i)))) s (Int.ofNat (i+min m (rn namB s i))) dp n x l:=λ h=>by
    refine Wp.gd ⟨Qa _,Qp.2 (by omega),Qp.2 (by omega)⟩ (Wp.mk ?_)
    rw [←h];rfl
   have g:isAt namB s (i+t)=false->t=min m (rn namB s i):=λ h=>by
    by_cases z:t<rn namB s i
    ·rw [zHY t i z] at h;cases h
    ·omega
   rw [zEm];refine Wp.lt (λ j=>Wp.ite (λ p=>Wp.bd (R:=λ c=>c=s[i+t]) ⟨_,zA4 j,rfl⟩ λ c hc=>qk_b (zUj c) (Wp.if (λ h=>?_) λ h=>?_)) λ p=>q ?_) λ y=>q (g (zCb y))
   ·subst hc;rw [zT (by rw [qr,qr];omega) (by rw [qr,qr];omega),qr,qr,qr] at p
    rw [zEl,zf (by omega),show i+t+1=i+(t+1) by omega,B (t+1) ?_ (by omega)]
    ·exact Wp.mk rfl
    ·have:t≠rn namB s i:=λ e=>by
      have:=zJb namB s _ i (QB _);rw [←e,zAX j,h] at this;cases this
     omega
   ·subst hc;exact q (g (by rw [zAX j];exact h))
   ·rw [zT (by rw [qr,qr];omega) (by rw [qr,qr];omega),qr,qr,qr] at p
    omega
 rw [zEN];exact loop FUEL 0 (QR _) (by have:=zx (n:=65537) (by omega);omega)
theorem zSd (m:Nat) (hm:m<=1000) (h8:∀c∈s,c<256) (i:Nat) (A:i<=s.length):zCl (Int.ofNat m) s (Int.ofNat i) dp n x.e x.f l=some (outA (.str (cutS s i (i+min m (rn wrdB s i)))) s (Int.ofNat (i+min m (rn wrdB s i))) dp n x l):=by
 have E:=zDR wrdB s i A;have loop:∀(w t:Nat),t<=min m (rn wrdB s i)->s.length-(i+t)<w->zAQ w (Int.ofNat m) (Int.ofNat i) s (Int.ofNat (i+t)) dp n x.e x.f l=some (outA (.str (cutS s i (i+min m (rn wrdB s i)))) s (Int.ofNat (i+min m (rn wrdB s i))) dp n x l):=by
  intro w
  induction w with
  | zero=>intro t _ h;omega
  | succ w B=>
   intro t C D;refine zi ?_
   have q:t=min m (rn wrdB s i)->Wp (gd (decide (0<=Int.ofNat i/\Int.ofNat i<=Int.ofNat (i+t)/\Int.ofNat (i+t)<=Int.ofNat s.length)) (some (AV.str (List.drop (Int.toNat (Int.ofNat i)) (List.take (Int.toNat (Int.ofNat (i+t))) s)),[(0,HO.cells false [.str s,.int .i64 (Int.ofNat (i+t)),.int .i64 dp,.int .i64 n,AV.sym 0,.int .i64 x.e,.int .i64 x.f])],[(0,VI.vec 6 l)]))) λ v=>v=outA (.str (cutS s i (i+min m (rn wrdB s i)))) s (Int.ofNat (i+min m (rn wrdB s i))) dp n x l:=λ h=>by
    refine Wp.gd ⟨Qa _,Qp.2 (by omega),Qp.2 (by omega)⟩ (Wp.mk ?_)
    rw [←h];rfl
   have j:isAt wrdB s (i+t)=false->t=min m (rn wrdB s i):=λ h=>by
    by_cases z:t<rn wrdB s i
    ·rw [zHY t i z] at h;cases h
    ·omega
   rw [zFJ];refine Wp.lt (λ g=>Wp.ite (λ p=>Wp.bd (R:=λ c=>c=s[i+t]) ⟨_,zA4 g,rfl⟩ λ c hc=>qk_b (zO5 c (by subst hc;exact h8 _ (Qn g))) (Wp.if (λ h=>?_) λ h=>?_)) λ p=>q ?_) λ y=>q (j (zCb y))
   ·subst hc;rw [zT (by rw [qr,qr];omega) (by rw [qr,qr];omega),qr,qr,qr] at p
    rw [zFI,zf (by omega),show i+t+1=i+(t+1) by omega,B (t+1) ?_ (by omega)]
    ·exact Wp.mk rfl
    ·have:t≠rn wrdB s i:=λ e=>by
      have:=zJb wrdB s _ i (QB _);rw [←e,zAX g,h] at this;cases this
     omega
   ·subst hc;exact q (j (by rw [zAX g];exact h))
   ·rw [zT (by rw [qr,qr];omega) (by rw [qr,qr];omega),qr,qr,qr] at p
    omega
 rw [zGm];exact loop FUEL 0 (QR _) (by have:=zx (n:=65537) (by omega);omega)
theorem zQV (m:Nat) (hm:m<=1000) (i:Nat) (A:i<=s.length):zCs (Int.ofNat m) s (Int.ofNat i) dp n x.e x.f l=some (outA (.str (cutS s i (i+min m (rn digB s i)))) s (Int.ofNat (i+min m (rn digB s i))) dp n x l):=by
 have E:=zDR digB s i A;have loop:∀(w t:Nat),t<=min m (rn digB s i)->s.length-(i+t)<w->zAW w (Int.ofNat m) (Int.ofNat i) s (Int.ofNat (i+t)) dp n x.e x.f l=some (outA (.str (cutS s i (i+min m (rn digB s i)))) s (Int.ofNat (i+min m (rn digB s i))) dp n x l):=by
  intro w
  induction w with
  | zero=>intro t _ h;omega
  | succ w B=>
   intro t C D;refine zi ?_
   have q:t=min m (rn digB s i)->Wp (gd (decide (0<=Int.ofNat i/\Int.ofNat i<=Int.ofNat (i+t)/\Int.ofNat (i+t)<=Int.ofNat s.length)) (some (AV.str (List.drop (Int.toNat (Int.ofNat i)) (List.take (Int.toNat (Int.ofNat (i+t))) s)),[(0,HO.cells false [.str s,.int .i64 (Int.ofNat (i+t)),.int .i64 dp,.int .i64 n,AV.sym 0,.int .i64 x.e,.int .i64 x.f])],[(0,VI.vec 6 l)]))) λ v=>v=outA (.str (cutS s i (i+min m (rn digB s i)))) s (Int.ofNat (i+min m (rn digB s i))) dp n x l:=λ h=>by
    refine Wp.gd ⟨Qa _,Qp.2 (by omega),Qp.2 (by omega)⟩ (Wp.mk ?_)
    rw [←h];rfl
   have g:isAt digB s (i+t)=false->t=min m (rn digB s i):=λ h=>by
    by_cases z:t<rn digB s i
    ·rw [zHY t i z] at h;cases h
    ·omega
   rw [zFW];refine Wp.lt (λ j=>Wp.ite (λ p=>Wp.bd (R:=λ c=>c=s[i+t]) ⟨_,zA4 j,rfl⟩ λ c hc=>qk_b (zVH c) (Wp.if (λ h=>?_) λ h=>?_)) λ p=>q ?_) λ y=>q (g (zCb y))
   ·subst hc;rw [zT (by rw [qr,qr];omega) (by rw [qr,qr];omega),qr,qr,qr] at p
    rw [zFV,zf (by omega),show i+t+1=i+(t+1) by omega,B (t+1) ?_ (by omega)]
    ·exact Wp.mk rfl
    ·have:t≠rn digB s i:=λ e=>by
      have:=zJb digB s _ i (QB _);rw [←e,zAX j,h] at this;cases this
     omega
   ·subst hc;exact q (g (by rw [zAX j];exact h))
   ·rw [zT (by rw [qr,qr];omega) (by rw [qr,qr];omega),qr,qr,qr] at p
    omega
 rw [zGD];exact loop FUEL 0 (QR _) (by have:=zx (n:=65537) (by omega);omega)
theorem zWx (h8:∀c∈s,c<256) (i:Nat) (j:i<=s.length):zBi s (Int.ofNat i) dp n x.e x.f l=some (outA (.str (cutS s (sk s i) (sk s i+min 32 (rn wrdB s (sk s i))))) s (Int.ofNat (sk s i+min 32 (rn wrdB s (sk s i)))) dp n (if rn wrdB s (sk s i)=0 then x.fail 5 (Int.ofNat (sk s i)) else x) l):=by
 refine zi ?_
 have g:=zAD j;have q:=zDR wrdB s (sk s i) g;rw [zKx];refine adU (zCr hs x dp n l i j) (adS (zSd hs x dp n l 32 (by decide) h8 (sk s i) g) ?_)
 have p:seqb (cutS s (sk s i) (sk s i+min 32 (rn wrdB s (sk s i)))) []=decide (rn wrdB s (sk s i)=0):=by
  rw [zAP];refine decide_eq_decide.2 ⟨λ h=>?_,λ h=>?_⟩
  ·have:=zCZ (s:=s) (i:=sk s i) (k:=min 32 (rn wrdB s (sk s i))) (by omega)
   rw [h] at this;have:0=min 32 (rn wrdB s (sk s i)):=this;omega
  ·exact List.eq_nil_of_length_eq_zero (by rw [zCZ (by omega)];omega)
 rw [p];refine Wp.ite (λ h=>adU (zEf x dp n l 5 _ _) (Wp.mk ?_)) λ h=>Wp.mk ?_
 ·rw [if_pos h,h];rfl
 ·rw [if_neg h]
omit hs in
theorem pum (M:Nat) (j:999999999999<=M):∀(w:List Nat) (f:Nat),(∀c∈w,digB c=true)->w.foldl (λ x c=>10*x+(c-48)) f<=999999999999->Lib.parseUintM M f (w.map UInt8.ofNat)=.ok (w.foldl (λ x c=>10*x+(c-48)) f)
 | [],f,_,_=>rfl
 | c::r,f,h,g=>by
  have hc:=QO (h c (.head _));have g:r.foldl (λ x c=>10*x+(c-48)) (10*f+(c-48))<=999999999999:=g
  have q:=zOo r (10*f+(c-48));have e:(UInt8.ofNat c).toNat=c:=by rw [UInt8.toNat_ofNat'];omega
  have p:f*10+(c-48)=10*f+(c-48):=by omega
  rw [Qd,Lib.parseUintM,e,if_pos hc,if_neg (by omega),p,if_neg (by omega)]
  exact pum M j r _ (λ c hc=>h c (.tail _ hc)) g
omit hs in
theorem zUk (w:List Nat) (y:0<w.length) (q:w.length<=12) (f:∀c∈w,digB c=true):∃v,zCE w (Int.ofNat 10) (Int.ofNat 64)=some (.qf [.int .i64 (Int.ofNat (numV w)),v]):=by
 have e:Nat.ble w.length 281474976710656=true:=by rw [Qs];omega
 have z:(Nat.ble w.length 281474976710656&&(Int.ofNat 10==10&&Int.ofNat 64==64))=true:=by rw [e];rfl
 have p:=zOn f q;have j:Lib.parseIntB 64 (w.map UInt8.ofNat)=.ok (Int.ofNat (numV w)):=by
  cases w with
  | nil=>cases y
  | cons c r=>
   have hc:=QO (f c (.head _));have g:(UInt8.ofNat c).toNat=c:=by rw [UInt8.toNat_ofNat'];omega
   have h:Lib.parseUintB 64 ((c::r).map UInt8.ofNat)=.ok (numV (c::r)):=by
    unfold Lib.parseUintB;rw [if_neg (by simp)]
    exact pum _ (by decide) (c::r) 0 f p
   rw [Qd] at h ⊢;rw [Lib.parseIntB_plain 64 _ _ (by rw [g];omega) (by rw [g];omega),h]
   show (if 2 ^ (64-1)<=numV (c::r) then Lib.NumEnd.range else Lib.NumEnd.ok ((numV (c::r):Nat):Int))=_
   rw [if_neg (by omega)]
   rfl
 unfold zCE zC7 zNX;simp only [z,j];exact ⟨_,rfl⟩
omit hs in
theorem zUl (w:List Nat) (j:w.length<=12) (g:∀c∈w,digB c=true):∃y,zGf w=some (.int .i64 y)/\(0<w.length->y=Int.ofNat (numV w)):=by
 by_cases f:0<w.length
 ·obtain ⟨v,e⟩:=zUk w f j g;refine ⟨_,zi ?_,λ _=>rfl⟩
  rw [zJi];exact zRk e (Wp.mk rfl)
 ·obtain ⟨y,v,e,_⟩:=zQh w (by omega)
  refine ⟨y,zi ?_,λ h=>absurd h f⟩
  rw [zJi];exact zRk e (Wp.mk rfl)
theorem zUm (i:Nat) (v:i<=s.length):∃y,zAR s (Int.ofNat i) dp n x.e x.f l=some (outA (.int .i64 y) s (Int.ofNat (sk s i+min 12 (rn digB s (sk s i)))) dp n (if rn digB s (sk s i)=0 then x.fail 5 (Int.ofNat (sk s i)) else x) l)/\(rn digB s (sk s i)≠0->y=Int.ofNat (numV (cutS s (sk s i) (sk s i+min 12 (rn digB s (sk s i)))))):=by
 have p:=zAD v;have z:=zDR digB s (sk s i) p;have g:=zCZ (s:=s) (i:=sk s i) (k:=min 12 (rn digB s (sk s i))) (by omega)
 obtain ⟨y,q,j⟩:=zUl (cutS s (sk s i) (sk s i+min 12 (rn digB s (sk s i)))) (by rw [g];omega) (zHv (by omega) (Nat.min_le_right _ _))
 refine ⟨y,zi ?_,λ h=>j (by rw [g];omega)⟩
 rw [zJw];refine adU (zCr hs x dp n l i v) (adS (zQV hs x dp n l 12 (by decide) (sk s i) p) ?_)
 have w:seqb (cutS s (sk s i) (sk s i+min 12 (rn digB s (sk s i)))) []=decide (rn digB s (sk s i)=0):=by
  rw [zAP];refine decide_eq_decide.2 ⟨λ h=>?_,λ h=>?_⟩
  ·rw [h] at g;have:0=min 12 (rn digB s (sk s i)):=g;omega
  ·exact List.eq_nil_of_length_eq_zero (by rw [g];omega)
 rw [w];refine Wp.ite (λ h=>adU (zEf x dp n l 5 _ _) (qk_i q (Wp.mk ?_))) λ h=>qk_i q (Wp.mk ?_)
 ·rw [if_pos h,h];rfl
 ·rw [if_neg h]
end
end Go.Proofs.YtdeeimaahdgeaaaGreatDoor.spec
namespace Go.Proofs.YtdeeimaahdgeaaaGreatDoor.spec
open Go Go.Sy
variable [MX]
def zC4 (s:List Nat) (x:FA) (v:AV×Heap×Vecs):Prop:=∃(y:Int) (i:Nat) (dp n:Int) (l:List AV),i<=s.length/\v=outA (.int .i64 y) s (Int.ofNat i) dp n x l
def zW0 (s:List Nat) (l:List AV) (dp:Int) (n0:Nat) (f:Int) (v:AV×Heap×Vecs):Prop:=∃(y:Int) (i e:Nat) (g:List AV),f=Int.ofNat i/\isAt wrdB s i=true/\e<=64/\g.length+n0<=l.length+e/\v=outA (.int .i64 y) s (Int.ofNat i) dp (Int.ofNat e) ⟨0,0⟩ g
def OutA (s:List Nat) (l:List AV) (dp:Int) (n0:Nat):RE (Nat×Nat×RT)->AV×Heap×Vecs->Prop
 | .ok (i,n,t),v=>v=outA (.int .i64 (Int.ofNat (l.length+t.size-1))) s (Int.ofNat i) dp (Int.ofNat n) ⟨0,0⟩ (l++t.fl l.length)
 | .error (e,f),v=>((FA.mk e f).ok=false/\zC4 s ⟨e,f⟩ v)\/(e=5/\zW0 s l dp n0 f v)
section
variable {s:List Nat} {l:List AV} {dp:Int}
theorem zIH {i:Nat} (h:isAt wrdB s i=true):isAt (·==32) s i=false:=by
 unfold isAt at h ⊢;split at h
 ·rename_i c _;have:=QO h;exact beq_eq_false_iff_ne.2 (by omega)
 ·cases h
theorem zNh {i c:Nat} (h:isAt wrdB s i=true) (hc:wrdB c=false):pfx s i [c]=false:=by
 cases hp:pfx s i [c] with
 | false=>rfl
 | true=>
  have:=pfx1.1 hp;unfold isAt at h;rw [this] at h;have h:wrdB c=true:=h;rw [hc] at h;cases h
variable (hs:s.length<=65536)
include hs
def Res3 (s:List Nat) (l:List AV) (dp:Int) (n:Nat) (x:FA) (r:RE (Nat×Nat×RT)) (v:AV×Heap×Vecs):Prop:=(x.ok=false->zC4 s x v)/\(x.ok=true->OutA s l dp n r v)
theorem zC0 {x:FA} (h:x.ok=false) (k:Int) (a b:List Nat) (m p q:Int) (i:Nat) (g:i<=s.length) (n:Int):Wp (zq s (Int.ofNat i) dp n x.e x.f k a b m p q l) (zC4 s x):=by
 rw [zFl];exact adI (zDU x dp n l k a b m p q _ h) (Wp.mk ⟨_,_,_,_,_,g,rfl⟩)
theorem zJe (k:Int) (a b:List Nat) (m p q:Int) (i n:Int) (e:l.length<=64):Wp (zq s i dp n 0 0 k a b m p q l) λ v=>v=outA (.int .i64 (Int.ofNat l.length)) s i dp n ⟨0,0⟩ (l++[nd6 k a b m p q]):=by
 rw [zFl];exact adI (zEr ⟨0,0⟩ dp n l k a b m p q i rfl e) (Wp.mk rfl)
theorem zRw (h8:∀c∈s,c<256) (x:FA) (j n:Nat) (m:Int) (k:Int) (a:List Nat) (H:j<=s.length) (hm:x.ok=true->m=Int.ofNat (n+1)) (C:n+1<=64\/x.ok=false) (O:l.length<=n) (y:l.length<=64):
  Wp (dD true [D.v K.s,D.hc 0 false 7,D.v K.s,D.v (K.i IntKind.i64),D.v (K.i IntKind.i64),D.v (K.i IntKind.i64),D.v (K.c (AV.sym 0)),D.v (K.i IntKind.i64),D.v (K.i IntKind.i64),D.vec 0 6] (zBi s (Int.ofNat j) dp m x.e x.f l) λ I M B E w A z F=>zq M B E w A z k a I (Int.ofNat 0) (Int.negSucc 0) (Int.negSucc 0) F) (Res3 s l dp n x (zIE s j n k a)):=by
 have J:=zAD H;have Q:=zDR wrdB s (sk s j) J;refine adS (zWx hs x dp m l h8 j H) ?_
 cases hx:x.ok with
 | false=>
  rw [FA.qH hx,ite_self];exact (zC0 hs hx k a _ _ _ _ _ (by omega) m).mono λ v p=>⟨λ _=>p,λ h=>by rw [hx] at h;cases h⟩
 | true=>
  have:=FA.zero hx;subst this;have hm:=hm hx;subst hm;have C:=C.resolve_right (by rw [hx];decide)
  unfold zIE zL0;by_cases q:rn wrdB s (sk s j)=0
  ·rw [if_pos q,if_pos q,FA.qt hx];exact (zC0 hs (fa5 _) k a _ _ _ _ _ (by omega) _).mono λ v p=>⟨λ h=>(by cases h),λ _=>.inl ⟨fa5 _,p⟩⟩
  ·rw [if_neg q,if_neg q];refine (zJe hs k a _ _ _ _ _ _ y).mono λ v p=>⟨λ h=>(by cases h),λ _=>?_⟩
   by_cases g:32<rn wrdB s (sk s j)
   ·rw [if_pos g];refine .inr ⟨rfl,_,sk s j+32,n+1,_,rfl,zHY 32 _ g,C,?_,p.trans (by rw [show min 32 (rn wrdB s (sk s j))=32 by omega])⟩
    rw [QC];show l.length+1+n<=_
    omega
   ·rw [if_neg g];show v=_
    rw [zFh,p,show min 32 (rn wrdB s (sk s j))=rn wrdB s (sk s j) by omega]
    rfl
theorem zRx (x:FA) (j n:Nat) (m:Int) (k:Int) (a:List Nat) (O:j<=s.length) (hm:x.ok=true->m=Int.ofNat (n+1)) (I:n+1<=64\/x.ok=false) (U:l.length<=n) (A:l.length<=64):
  Wp (dD true [D.v (K.i IntKind.i64),D.hc 0 false 7,D.v K.s,D.v (K.i IntKind.i64),D.v (K.i IntKind.i64),D.v (K.i IntKind.i64),D.v (K.c (AV.sym 0)),D.v (K.i IntKind.i64),D.v (K.i IntKind.i64),D.vec 0 6] (zAR s (Int.ofNat j) dp m x.e x.f l) λ B T E C H z M J=>zq T E C H z M k a [] B (Int.negSucc 0) (Int.negSucc 0) J) (Res3 s l dp n x (zIF s j n k a)):=by
 have R:=zAD O;have V:=zDR digB s (sk s j) R;obtain ⟨y,S,w⟩:=zUm hs x dp m l j O;refine adI S ?_
 cases hx:x.ok with
 | false=>
  rw [FA.qH hx,ite_self];exact (zC0 hs hx k a _ _ _ _ _ (by omega) m).mono λ v g=>⟨λ _=>g,λ h=>by rw [hx] at h;cases h⟩
 | true=>
  have:=FA.zero hx;subst this;have hm:=hm hx;subst hm;have I:=I.resolve_right (by rw [hx];decide)
  unfold zIF zKn;by_cases q:rn digB s (sk s j)=0
  ·rw [if_pos q,FA.qt hx];have Q:sk s j+min 12 (rn digB s (sk s j))=sk s j:=by omega
   have key:∀v,zC4 s ⟨5,Int.ofNat (sk s j)⟩ v->Res3 s l dp n ⟨0,0⟩ (match (if isAt wrdB s (sk s j+min 12 (rn digB s (sk s j)))=true then (.error (5,Int.ofNat (sk s j+min 12 (rn digB s (sk s j)))):RE (Nat×Int)) else if rn digB s (sk s j)=0 then .error (5,Int.ofNat (sk s j)) else .ok (sk s j+min 12 (rn digB s (sk s j)),Int.ofNat (numV (cutS s (sk s j) (sk s j+min 12 (rn digB s (sk s j))))))) with | .error e=>.error e | .ok (j,x)=>.ok (j,n+1,.leaf k a [] x)) v:=λ v g=>by
    refine ⟨λ h=>(by cases h),λ _=>?_⟩
    rw [if_pos q,Q];split
    ·rename_i e p;have p:e=(5,Int.ofNat (sk s j)):=by
      split at p <;> cases p <;> rfl
     subst p;exact .inl ⟨fa5 _,g⟩
    ·rename_i p;split at p <;> cases p
   exact (zC0 hs (fa5 _) k a _ _ _ _ _ (by omega) _).mono λ v g=>key v g
  ·rw [if_neg q,if_neg q];refine (zJe hs k a _ _ _ _ _ _ A).mono λ v g=>⟨λ h=>(by cases h),λ _=>?_⟩
   by_cases F:isAt wrdB s (sk s j+min 12 (rn digB s (sk s j)))=true
   ·rw [if_pos F];refine .inr ⟨rfl,_,_,n+1,_,rfl,F,I,?_,g⟩
    rw [QC];show l.length+1+n<=_
    omega
   ·rw [if_neg F,w q] at *;show v=_
    rw [zFh,g];rfl
theorem zJS (x:FA) (b:Bool) (j n:Nat) (m:Int) (a:List Nat) (w:j<=s.length) (hm:x.ok=true->m=Int.ofNat (n+1)) (y:n+1<=64\/x.ok=false) (q:l.length<=64) (r:RE (Nat×Nat×RT)) (p:(b=true->r=.error (5,Int.ofNat j))/\(b=false->r=.ok (j,n+1,.leaf 6 a [] 0))):
  Wp (zAb b s (Int.ofNat j) dp m x.e x.f (Int.ofNat 6) a [] (Int.ofNat 0) (Int.negSucc 0) (Int.negSucc 0) l) (Res3 s l dp n x r):=by
 rw [zJj];refine Wp.if (λ h=>adU (zEf x dp m l 5 _ _) ?_) λ h=>?_
 ·have p:=p.1 h;subst p;cases hx:x.ok with
  | false=>
   rw [FA.qH hx];exact (zC0 hs hx _ a _ _ _ _ _ w m).mono λ v g=>⟨λ _=>g,λ h=>by rw [hx] at h;cases h⟩
  | true=>
   rw [FA.qt hx];exact (zC0 hs (fa5 _) _ a _ _ _ _ _ w m).mono λ v g=>⟨λ h=>(by rw [hx] at h;cases h),λ _=>.inl ⟨fa5 _,g⟩⟩
 ·have p:=p.2 h;subst p;cases hx:x.ok with
  | false=>exact (zC0 hs hx _ a _ _ _ _ _ w m).mono λ v g=>⟨λ _=>g,λ h=>by rw [hx] at h;cases h⟩
  | true=>
   have:=FA.zero hx;subst this;have hm:=hm hx;subst hm;refine (zJe hs _ a _ _ _ _ _ _ q).mono λ v g=>⟨λ h=>(by cases h),λ _=>?_⟩
   show v=_
   rw [zFh,g];rfl
theorem zB2 (x:FA) (t:List Nat) (i:Nat) (g:i<=s.length) (m:Int) {β:Type} {P:β->Prop} {wk:Bool} {f:Bool->List Nat->Int->Int->Int->Int->Int->List AV->Option β}
  (p:pfx s (sk s i) t=true->sk s i+t.length<=s.length->Wp (f true s (Int.ofNat (sk s i+t.length)) dp m x.e x.f l) P) (j:pfx s (sk s i) t=false->Wp (f false s (Int.ofNat (sk s i)) dp m x.e x.f l) P):
  Wp (dD wk [D.v K.b,D.hc 0 false 7,D.v K.s,D.v (K.i IntKind.i64),D.v (K.i IntKind.i64),D.v (K.i IntKind.i64),D.v (K.c (AV.sym 0)),D.v (K.i IntKind.i64),D.v (K.i IntKind.i64),D.vec 0 6] (zm t s (Int.ofNat i) dp m x.e x.f l) f) P:=by
 refine adB (a_is hs x dp m l t i g) ?_
 cases hp:pfx s (sk s i) t with
 | true=>
  have h:sk s i+t.length<=s.length:=by
   have:=congrArg List.length (QO hp);rw [Qm,Qr] at this;have:=zAD g;omega
  exact p hp h
 | false=>exact j hp
theorem npf1 {i c:Nat} (h:pfx s i [c]=false):¬s[i]? = some c:=λ e=>by rw [pfx1.2 e] at h;cases h
theorem npf2 {i c d:Nat} (h:pfx s i [c,d]=false):¬(s[i]? = some c/\s[i+1]? = some d):=λ e=>by rw [pfx2.2 e] at h;cases h
theorem zTo (h8:∀c∈s,c<256) (i0:Int) (i n:Nat) (a:List Nat) (hi:i<=s.length) (Y:n<=64) (hl:l.length<=n):
  Wp (zEi i0 a s (Int.ofNat i) dp (Int.ofNat n) 0 0 l) (OutA s l dp n (if 64<n+1 then .error (3,i0) else zDS s (sk s i) n a)):=by
 rw [zJk];refine adU (zKs ⟨0,0⟩ dp (Int.ofNat n) l i0 _) ?_
 rw [zf (by omega)]
 have hk:=zAD hi;have j:l.length<=64:=by omega
 have key:∀x:FA,(x.ok=true->Int.ofNat (n+1)=Int.ofNat (n+1))->(n+1<=64\/x.ok=false)->(∀r v,Res3 s l dp n x r v->OutA s l dp n (if 64<n+1 then .error (3,i0) else r) v)->Wp (dD true [D.v K.b,D.hc 0 false 7,D.v K.s,D.v (K.i IntKind.i64),D.v (K.i IntKind.i64),D.v (K.i IntKind.i64),D.v (K.c (AV.sym 0)),D.v (K.i IntKind.i64),D.v (K.i IntKind.i64),D.vec 0 6] (zm [33,61] s (Int.ofNat i) dp (Int.ofNat (n+1)) x.e x.f l) (λ b2 s3 ai ab ag ao ae ac=>br b2 (dD true [D.v K.s,D.hc 0 false 7,D.v K.s,D.v (K.i IntKind.i64),D.v (K.i IntKind.i64),D.v (K.i IntKind.i64),D.v (K.c (AV.sym 0)),D.v (K.i IntKind.i64),D.v (K.i IntKind.i64),D.vec 0 6] (zBi s3 ai ab ag ao ae ac) λ s4 s5 R A M w W J=>zq s5 R A M w W (Int.ofNat 3) a s4 (Int.ofNat 0) (Int.negSucc 0) (Int.negSucc 0) J) (dD true [D.v K.b,D.hc 0 false 7,D.v K.s,D.v (K.i IntKind.i64),D.v (K.i IntKind.i64),D.v (K.i IntKind.i64),D.v (K.c (AV.sym 0)),D.v (K.i IntKind.i64),D.v (K.i IntKind.i64),D.vec 0 6] (zm [62,61] s3 ai ab ag ao ae ac) λ b3 s4 R A M w W J=>br b3 (dD true [D.v (K.i IntKind.i64),D.hc 0 false 7,D.v K.s,D.v (K.i IntKind.i64),D.v (K.i IntKind.i64),D.v (K.i IntKind.i64),D.v (K.c (AV.sym 0)),D.v (K.i IntKind.i64),D.v (K.i IntKind.i64),D.vec 0 6] (zAR s4 R A M w W J) λ E s5 C F y Q p S=>zq s5 C F y Q p (Int.ofNat 4) a [] E (Int.negSucc 0) (Int.negSucc 0) S) (dD true [D.v K.b,D.hc 0 false 7,D.v K.s,D.v (K.i IntKind.i64),D.v (K.i IntKind.i64),D.v (K.i IntKind.i64),D.v (K.c (AV.sym 0)),D.v (K.i IntKind.i64),D.v (K.i IntKind.i64),D.vec 0 6] (zm [60,61] s4 R A M w W J) λ b4 s5 E C F y Q S=>br b4 (dD true [D.v (K.i IntKind.i64),D.hc 0 false 7,D.v K.s,D.v (K.i IntKind.i64),D.v (K.i IntKind.i64),D.v (K.i IntKind.i64),D.v (K.c (AV.sym 0)),D.v (K.i IntKind.i64),D.v (K.i IntKind.i64),D.vec 0 6] (zAR s5 E C F y Q S) λ p s6 B n27 I X q H=>zq s6 B n27 I X q (Int.ofNat 5) a [] p (Int.negSucc 0) (Int.negSucc 0) H) (dD true [D.v K.b,D.hc 0 false 7,D.v K.s,D.v (K.i IntKind.i64),D.v (K.i IntKind.i64),D.v (K.i IntKind.i64),D.v (K.c (AV.sym 0)),D.v (K.i IntKind.i64),D.v (K.i IntKind.i64),D.vec 0 6] (zm [61] s5 E C F y Q S) λ b5 s6 p B n27 I X H=>br b5 (dD true [D.v K.s,D.hc 0 false 7,D.v K.s,D.v (K.i IntKind.i64),D.v (K.i IntKind.i64),D.v (K.i IntKind.i64),D.v (K.c (AV.sym 0)),D.v (K.i IntKind.i64),D.v (K.i IntKind.i64),D.vec 0 6] (zBi s6 p B n27 I X H) λ s7 s8 q O U z T V=>zq s8 q O U z T (Int.ofNat 2) a s7 (Int.ofNat 0) (Int.negSucc 0) (Int.negSucc 0) V) (dD true [D.v K.b,D.hc 0 false 7,D.v K.s,D.v (K.i IntKind.i64),D.v (K.i IntKind.i64),D.v (K.i IntKind.i64),D.v (K.c (AV.sym 0)),D.v (K.i IntKind.i64),D.v (K.i IntKind.i64),D.vec 0 6] (zm [33] s6 p B n27 I X H) λ b6 s7 q O U z T V=>br b6 (zAb true s7 q O U z T (Int.ofNat 6) a [] (Int.ofNat 0) (Int.negSucc 0) (Int.negSucc 0) V) (dD true [D.v K.b,D.hc 0 false 7,D.v K.s,D.v (K.i IntKind.i64),D.v (K.i IntKind.i64),D.v (K.i IntKind.i64),D.v (K.c (AV.sym 0)),D.v (K.i IntKind.i64),D.v (K.i IntKind.i64),D.vec 0 6] (zm [62] s7 q O U z T V) λ b7 s8 ad af al ak aj aa=>br b7 (zAb true s8 ad af al ak aj (Int.ofNat 6) a [] (Int.ofNat 0) (Int.negSucc 0) (Int.negSucc 0) aa) (dD true [D.v K.b,D.hc 0 false 7,D.v K.s,D.v (K.i IntKind.i64),D.v (K.i IntKind.i64),D.v (K.i IntKind.i64),D.v (K.c (AV.sym 0)),D.v (K.i IntKind.i64),D.v (K.i IntKind.i64),D.vec 0 6] (zm [60] s8 ad af al ak aj aa) λ b8 s9 ar aq au ay ax aw=>zAb b8 s9 ar aq au ay ax (Int.ofNat 6) a [] (Int.ofNat 0) (Int.negSucc 0) (Int.negSucc 0) aw)))))))) (OutA s l dp n (if 64<n+1 then .error (3,i0) else zDS s (sk s i) n a)):=λ x hm Y post=>by
  have eS:∀{r},zDS s (sk s i) n a=r->∀v,Res3 s l dp n x r v->OutA s l dp n (if 64<n+1 then .error (3,i0) else zDS s (sk s i) n a) v:=λ h v hv=>by rw [h];exact post _ v hv
  refine zB2 hs x [33,61] i hi _ (λ h g=>Wp.if (λ _=>?_) λ h=>by cases h) λ n1=>Wp.if (λ h=>by cases h) λ _=>?_
  ·have h:=pfx2.1 h;refine (zRw hs h8 x (sk s i+2) n _ 3 a g hm Y hl j).mono (eS ?_)
   unfold zDS;rw [if_neg (by rw [h.1];decide),if_pos h]
  refine zB2 hs x [62,61] (sk s i) hk _ (λ h g=>Wp.if (λ _=>?_) λ h=>by cases h) λ n2=>Wp.if (λ h=>by cases h) λ _=>?_
  ·rw [zBA] at h g ⊢;have h:=pfx2.1 h;refine (zRx hs x (sk s i+2) n _ 4 a g hm Y hl j).mono (eS ?_)
   unfold zDS;rw [if_neg (by rw [h.1];decide),if_neg (npf2 hs n1),if_pos h]
  rw [zBA] at n2 ⊢;refine zB2 hs x [60,61] (sk s i) hk _ (λ h g=>Wp.if (λ _=>?_) λ h=>by cases h) λ n3=>Wp.if (λ h=>by cases h) λ _=>?_
  ·rw [zBA] at h g ⊢;have h:=pfx2.1 h;refine (zRx hs x (sk s i+2) n _ 5 a g hm Y hl j).mono (eS ?_)
   unfold zDS;rw [if_neg (by rw [h.1];decide),if_neg (npf2 hs n1),if_neg (npf2 hs n2),if_pos h]
  rw [zBA] at n3 ⊢;refine zB2 hs x [61] (sk s i) hk _ (λ h g=>Wp.if (λ _=>?_) λ h=>by cases h) λ n4=>Wp.if (λ h=>by cases h) λ _=>?_
  ·rw [zBA] at h g ⊢;have h:=pfx1.1 h;refine (zRw hs h8 x (sk s i+1) n _ 2 a g hm Y hl j).mono (eS ?_)
   unfold zDS;rw [if_pos h]
  rw [zBA] at n4 ⊢;have hS:zDS s (sk s i) n a=if s[sk s i]? = some 33\/s[sk s i]? = some 62\/s[sk s i]? = some 60 then .error (5,Int.ofNat (sk s i+1)) else .ok (sk s i,n+1,.leaf 6 a [] 0):=by
   unfold zDS;rw [if_neg (npf1 hs n4),if_neg (npf2 hs n1),if_neg (npf2 hs n2),if_neg (npf2 hs n3)]
  refine zB2 hs x [33] (sk s i) hk _ (λ h g=>Wp.if (λ _=>?_) λ h=>by cases h) λ n5=>Wp.if (λ h=>by cases h) λ _=>?_
  ·rw [zBA] at h g ⊢;have h:=pfx1.1 h;exact (zJS hs x true (sk s i+1) n _ a g hm Y j _ ⟨λ _=>by rw [hS,if_pos (.inl h)],λ h=>by cases h⟩).mono (eS rfl)
  rw [zBA] at n5 ⊢;refine zB2 hs x [62] (sk s i) hk _ (λ h g=>Wp.if (λ _=>?_) λ h=>by cases h) λ n6=>Wp.if (λ h=>by cases h) λ _=>?_
  ·rw [zBA] at h g ⊢;have h:=pfx1.1 h;exact (zJS hs x true (sk s i+1) n _ a g hm Y j _ ⟨λ _=>by rw [hS,if_pos (.inr (.inl h))],λ h=>by cases h⟩).mono (eS rfl)
  rw [zBA] at n6 ⊢;refine zB2 hs x [60] (sk s i) hk _ (λ h g=>?_) λ n7=>?_
  ·rw [zBA] at h g ⊢;have h:=pfx1.1 h;exact (zJS hs x true (sk s i+1) n _ a g hm Y j _ ⟨λ _=>by rw [hS,if_pos (.inr (.inr h))],λ h=>by cases h⟩).mono (eS rfl)
  ·rw [zBA] at n7 ⊢;exact (zJS hs x false (sk s i) n _ a hk hm Y j _ ⟨λ h=>(by cases h),λ _=>by rw [hS,if_neg (by rintro (h | h | h);exact npf1 hs n5 h;exact npf1 hs n6 h;exact npf1 hs n7 h)]⟩).mono (eS rfl)
 by_cases ah:64<n+1
 ·rw [if_pos (show (64:Int)<Int.ofNat (n+1) by rw [qr];omega),FA.qt rfl]
  exact key ⟨3,i0⟩ (λ _=>rfl) (.inr (fa3 _)) λ r v hv=>by rw [if_pos ah];exact .inl ⟨fa3 _,hv.1 (fa3 _)⟩
 ·rw [if_neg (show ¬(64:Int)<Int.ofNat (n+1) by rw [qr];omega)]
  exact key ⟨0,0⟩ (λ _=>rfl) (.inl (by omega)) λ r v hv=>by rw [if_neg ah];exact hv.2 rfl
end
end Go.Proofs.YtdeeimaahdgeaaaGreatDoor.spec
