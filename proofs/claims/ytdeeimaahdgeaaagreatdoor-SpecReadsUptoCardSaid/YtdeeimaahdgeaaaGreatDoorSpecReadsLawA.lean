/- THE LAW OF THE LEAN FUNCTIONS, IN PLAIN LEAN: whatever the arguments, it says true. No condition. -/
import Derived.Test.YtdeeimaahdgeaaaGreatDoorSpecReadsS2
import Derived.Lib.ItoaNum
set_option linter.unusedVariables false
set_option linter.unusedSimpArgs false
set_option linter.unusedSectionVars false
namespace Go.Proofs.YtdeeimaahdgeaaaGreatDoor.spec
open Go Go.Sy
variable [MX]
theorem zVr:zDW=some (.bool true):=by
 unfold zDW gV;rw [zER]
 kernel_rfl
end Go.Proofs.YtdeeimaahdgeaaaGreatDoor.spec
namespace Go.Proofs.YtdeeimaahdgeaaaGreatDoor.spec
open Go Go.Sy
theorem ek_i {β:Type} {wk:Bool} {f:(Int)->Option β} (x1:Int):dK wk [K.i IntKind.i64] (some (.int Go.IntKind.i64 x1)) f=f x1:=rfl
theorem qk_i {β:Type} {wk:Bool} {P:β->Prop} {f:(Int)->Option β} {o:Option (AV)} {x1:Int} (h:o=some (.int Go.IntKind.i64 x1)) (k:Wp (f x1) P):Wp (dK wk [K.i IntKind.i64] o f) P:=by
 subst h;exact k
theorem qk_u {β:Type} {wk:Bool} {P:β->Prop} {f:(Int)->Option β} {o:Option (AV)} {x1:Int} (h:o=some (.int Go.IntKind.u8 x1)) (k:Wp (f x1) P):Wp (dK wk [K.i IntKind.u8] o f) P:=by
 subst h;exact k
theorem zMA {β:Type} {wk:Bool} {P:β->Prop} {f:(List Nat)->(List Nat)->(Bool)->Option β} {o:Option (AV)} {d:List Nat} {x3:List Nat} {x4:Bool} (h:o=some (.qc [.str d,.str x3,.bool x4])) (k:Wp (f d x3 x4) P):Wp (dK wk [K.qc 3,K.s,K.s,K.b] o f) P:=by
 subst h;exact k
theorem ek_b {β:Type} {wk:Bool} {f:(Bool)->Option β} (x1:Bool):dK wk [K.b] (some (.bool x1)) f=f x1:=rfl
theorem qk_b {β:Type} {wk:Bool} {P:β->Prop} {f:(Bool)->Option β} {o:Option (AV)} {x1:Bool} (h:o=some (.bool x1)) (k:Wp (f x1) P):Wp (dK wk [K.b] o f) P:=by
 subst h;exact k
theorem ek_s {β:Type} {wk:Bool} {f:(List Nat)->Option β} (x1:List Nat):dK wk [K.s] (some (.str x1)) f=f x1:=rfl
theorem qk_s {β:Type} {wk:Bool} {P:β->Prop} {f:(List Nat)->Option β} {o:Option (AV)} {x1:List Nat} (h:o=some (.str x1)) (k:Wp (f x1) P):Wp (dK wk [K.s] o f) P:=by
 subst h;exact k
theorem zZe {β:Type} {wk:Bool} {P:β->Prop} {f:(List AV)->Option β} {o:Option (AV)} {x1:List AV} (h:o=some (.ql 1 x1)) (k:Wp (f x1) P):Wp (dK wk [K.l 1] o f) P:=by
 subst h;exact k
theorem zXV {β:Type} {wk:Bool} {f:(Int)->(Bool)->Option β} (d:Int) (x3:Bool):dK wk [K.qc 2,K.i IntKind.i64,K.b] (some (.qc [.int Go.IntKind.i64 d,.bool x3])) f=f d x3:=rfl
theorem zXW {β:Type} {wk:Bool} {P:β->Prop} {f:(Int)->(Bool)->Option β} {o:Option (AV)} {d:Int} {x3:Bool} (h:o=some (.qc [.int Go.IntKind.i64 d,.bool x3])) (k:Wp (f d x3) P):Wp (dK wk [K.qc 2,K.i IntKind.i64,K.b] o f) P:=by
 subst h;exact k
theorem zTx {β:Type} {wk:Bool} {P:β->Prop} {f:(Int)->(AV)->Option β} {o:Option (AV)} {d:Int} {x3:AV} (h:o=some (.qc [.int Go.IntKind.i64 d,x3])) (k:Wp (f d x3) P):Wp (dK wk [K.qc 2,K.i IntKind.i64,K.av] o f) P:=by
 subst h;exact k
theorem zEG {β:Type} {wk:Bool} {P:β->Prop} {f:(Int)->(List Nat)->(List Nat)->(Int)->(Int)->(Int)->Option β} {o:Option (AV)} {g:Int} {x3:List Nat} {x4:List Nat} {j:Int} {d:Int} {x7:Int} (h:o=some (.agg [.int Go.IntKind.i64 g,.str x3,.str x4,.int Go.IntKind.i64 j,.int Go.IntKind.i64 d,.int Go.IntKind.i64 x7])) (k:Wp (f g x3 x4 j d x7) P):Wp (dK wk [K.agg 6,K.i IntKind.i64,K.s,K.s,K.i IntKind.i64,K.i IntKind.i64,K.i IntKind.i64] o f) P:=by
 subst h;exact k
theorem zVs {β:Type} {wk:Bool} {P:β->Prop} {f:(Int)->(Int)->(Int)->(Int)->Option β} {o:Option (AV)} {d:Int} {x3:Int} {x4:Int} {g:Int} (h:o=some (.agg [.int Go.IntKind.i64 d,.int Go.IntKind.i64 x3,.int Go.IntKind.i64 x4,.int Go.IntKind.i64 g])) (k:Wp (f d x3 x4 g) P):Wp (dK wk [K.agg 4,K.i IntKind.i64,K.i IntKind.i64,K.i IntKind.i64,K.i IntKind.i64] o f) P:=by
 subst h;exact k
theorem zGx {β:Type} {wk:Bool} {P:β->Prop} {f:(List Nat)->(Int)->Option β} {o:Option (AV)} {d:List Nat} {x3:Int} (h:o=some (.agg [.str d,.int Go.IntKind.i64 x3])) (k:Wp (f d x3) P):Wp (dK wk [K.agg 2,K.s,K.i IntKind.i64] o f) P:=by
 subst h;exact k
theorem zId {β:Type} {wk:Bool} {P:β->Prop} {f:(Int)->(List Nat)->(List Nat)->(Int)->(Int)->(Int)->(List Nat)->(Int)->(Int)->(Int)->(Int)->(List AV)->(Int)->Option β} {o:Option (AV)} {d:Int} {x3:List Nat} {x4:List Nat} {g:Int} {j:Int} {x7:Int} {x8:List Nat} {x9:Int} {x10:Int} {x11:Int} {x12:Int} {x13:List AV} {x14:Int} (h:o=some (.agg [.int Go.IntKind.i64 d,.str x3,.str x4,.int Go.IntKind.i64 g,.int Go.IntKind.i64 j,.int Go.IntKind.i64 x7,.str x8,.int Go.IntKind.i64 x9,.int Go.IntKind.i64 x10,.int Go.IntKind.i64 x11,.int Go.IntKind.i64 x12,.ql 6 x13,.int Go.IntKind.i64 x14])) (k:Wp (f d x3 x4 g j x7 x8 x9 x10 x11 x12 x13 x14) P):Wp (dK wk [K.agg 13,K.i IntKind.i64,K.s,K.s,K.i IntKind.i64,K.i IntKind.i64,K.i IntKind.i64,K.s,K.i IntKind.i64,K.i IntKind.i64,K.i IntKind.i64,K.i IntKind.i64,K.l 6,K.i IntKind.i64] o f) P:=by
 subst h;exact k
theorem zLZ {β:Type} {wk:Bool} {P:β->Prop} {f:(Bool)->(Int)->(List Nat)->(List Nat)->(Int)->(Int)->(Int)->(List Nat)->(Int)->(Int)->(Int)->(Int)->(List AV)->(Int)->(List Nat)->Option β} {o:Option (AV×Heap×Vecs)} {x1:Bool} {d:Int} {x3:List Nat} {x4:List Nat} {g:Int} {j:Int} {x7:Int} {x8:List Nat} {x9:Int} {x10:Int} {x11:Int} {x12:Int} {x13:List AV} {x14:Int} {x15:List Nat} (h:o=some (.bool x1,[(0,.cells false [.int Go.IntKind.i64 d,.str x3,.str x4,.int Go.IntKind.i64 g,.int Go.IntKind.i64 j,.int Go.IntKind.i64 x7,.str x8,.int Go.IntKind.i64 x9,.int Go.IntKind.i64 x10,.int Go.IntKind.i64 x11,.int Go.IntKind.i64 x12,.ql 6 x13,.int Go.IntKind.i64 x14,.str x15])],[])) (k:Wp (f x1 d x3 x4 g j x7 x8 x9 x10 x11 x12 x13 x14 x15) P):Wp (dD wk [D.v K.b,D.hc 0 false 14,D.v (K.i IntKind.i64),D.v K.s,D.v K.s,D.v (K.i IntKind.i64),D.v (K.i IntKind.i64),D.v (K.i IntKind.i64),D.v K.s,D.v (K.i IntKind.i64),D.v (K.i IntKind.i64),D.v (K.i IntKind.i64),D.v (K.i IntKind.i64),D.v (K.l 6),D.v (K.i IntKind.i64),D.v K.s] o f) P:=by
 subst h;exact k
theorem zVt {β:Type} {wk:Bool} {P:β->Prop} {f:Option β} {o:Option (AV×Heap×Vecs)}  (h:o=some (AV.sym 0,[],[(0,.mp [(AV.str [117,115,101,114],AV.func (Fn.func 83) [] []),(AV.str [98,97,110,100],AV.func (Fn.func 84) [] []),(AV.str [99,111,117,110,116],AV.func (Fn.func 85) [] []),(AV.str [100,111,119,110],AV.func (Fn.func 86) [] []),(AV.str [105,110],AV.func (Fn.func 87) [] []),(AV.str [99,112,117],AV.func (Fn.func 88) [] []),(AV.str [114,97,109],AV.func (Fn.func 89) [] []),(AV.str [100,105,115,107],AV.func (Fn.func 90) [] []),(AV.str [112,111,114,116,115],AV.func (Fn.func 91) [] []),(AV.str [114,117,108,101],AV.func (Fn.func 92) [] []),(AV.str [98,97,116,99,104],AV.func (Fn.func 93) [] [])])])) (k:Wp (f) P):Wp (dD wk [D.v (K.c (AV.sym 0)),D.uo 0 [(AV.str [117,115,101,114],AV.func (Fn.func 83) [] []),(AV.str [98,97,110,100],AV.func (Fn.func 84) [] []),(AV.str [99,111,117,110,116],AV.func (Fn.func 85) [] []),(AV.str [100,111,119,110],AV.func (Fn.func 86) [] []),(AV.str [105,110],AV.func (Fn.func 87) [] []),(AV.str [99,112,117],AV.func (Fn.func 88) [] []),(AV.str [114,97,109],AV.func (Fn.func 89) [] []),(AV.str [100,105,115,107],AV.func (Fn.func 90) [] []),(AV.str [112,111,114,116,115],AV.func (Fn.func 91) [] []),(AV.str [114,117,108,101],AV.func (Fn.func 92) [] []),(AV.str [98,97,116,99,104],AV.func (Fn.func 93) [] [])]] o f) P:=by
 subst h;exact k
abbrev nd6 (k:Int) (s t:List Nat) (n l r:Int):AV:=.agg [.int .i64 k,.str s,.str t,.int .i64 n,.int .i64 l,.int .i64 r]
end Go.Proofs.YtdeeimaahdgeaaaGreatDoor.spec
namespace Go.Proofs.YtdeeimaahdgeaaaGreatDoor.spec
open Go Go.Sy
variable [MX]
def okQ' (c:Nat):Prop:=32<=c/\c<=126/\c≠34/\c≠35
instance:DecidablePred okQ':=λ c=>by unfold okQ';infer_instance
abbrev okS (s:List Nat):Prop:=∀c∈s,okQ' c
theorem zMB {k:Nat} (h:k<10):(UInt8.ofNat (48+k)).toNat=48+k:=by
 rw [UInt8.toNat_ofNat'];omega
theorem zVu {k:Nat} (h:k<10):okQ' (48+k):=⟨by omega,by omega,by omega,by omega⟩
theorem zQ8 (n:Nat):okS ((Lib.decDigits n).map UInt8.toNat):=by
 induction n using Nat.strongRecOn with
 | ind n g=>
  rw [Lib.decDigits];by_cases h:n<10
  ·rw [dif_pos h];intro c hc;simp only [Qd,List.map_nil,zMB h,Qc] at hc;subst hc;exact zVu h
  ·rw [dif_neg h,ZA];intro c hc;rcases QK.1 hc with hc | hc
   ·exact g (n / 10) (by omega) c hc
   ·have d:=Nat.mod_lt n (by decide:0<10)
    simp only [Qd,List.map_nil,zMB d,Qc] at hc;subst hc;exact zVu d
theorem zSq (s:List Nat) (h:s.length<=1000):∃n v,zCZ s (Int.ofNat 10) (Int.ofNat 64)=some (.qc [.int .i64 n,v])/\-9223372036854775808<=n/\n<=9223372036854775807:=by
 have hs:∀l,-9223372036854775808<=Lib.intSat 64 l/\Lib.intSat 64 l<=9223372036854775807:=λ l=>by unfold Lib.intSat;split <;> decide
 have e:Nat.ble s.length 281474976710656=true:=by rw [Qv];omega
 have d:(Nat.ble s.length 281474976710656&&(Int.ofNat 10==10&&Int.ofNat 64==64))=true:=by rw [e];rfl
 unfold zCZ zDx zPW;simp only [d];cases hp:Lib.parseIntB 64 (s.map UInt8.ofNat) with
 | ok v=>
  have hb:=Lib.parseIntB_bounds hp;exact ⟨_,_,rfl,hb.1,Int.le_of_lt_add_one hb.2⟩
 | range=>exact ⟨_,_,rfl,hs _⟩
 | _=>exact ⟨_,_,rfl,by decide,by decide⟩
def okA (a b c d:Int):Prop:=(0<=a/\a<=1099511627776)/\(0<=b/\b<=1099511627776)/\(0<=c/\c<=1099511627776)/\(0<=d/\d<=1099511627776)
instance (a b c d:Int):Decidable (okA a b c d):=by unfold okA;infer_instance
theorem zi {β:Type} {o:Option β} {x:β} (h:Wp o λ v=>v=x):o=some x:=let ⟨_,e,h⟩:=h;h▸e
theorem zQr (a b c d:Int):zHq a b c d=some (.int .i64 (if okA a b c d then 0 else 2)):=by
 refine zi ?_
 rw [zM9];refine zVs (zM8 ..) ?_
 repeat' first | refine Wp.ite (λ _=>?_) (λ _=>?_) | refine Wp.mk ?_
 all_goals (first | rw [if_neg (by unfold okA;omega)];rfl | rw [if_pos (by unfold okA;omega)];rfl)
def zWW (a b c d g k h j:Int):Prop:=a<=g/\b<=k/\c<=h/\d<=j
instance (a b c d a' b' c' d':Int):Decidable (zWW a b c d a' b' c' d'):=by unfold zWW;infer_instance
abbrev bytes (s:List Nat):List AV:=s.map λ b=>AV.int .u8 (.ofNat b)
theorem zMC (c:Int):zDT c=some (.bool (decide (48<=c/\c<=57))):=by
 rw [zQb];refine zi (Wp.ite (λ h=>Wp.mk ?_) λ h=>Wp.mk ?_)
 ·congr 1;exact decide_eq_decide.2 (by omega)
 ·congr 1;exact (QG (by omega)).symm
theorem zXX {n k:Nat} (h:n<=2000001) (d:k<=200):n*k<=zd/\n<=zd:=by
 have:n*k<=2000001*200:=Nat.mul_le_mul h d;unfold zd;omega
def within (a b c d x y z u:Int):Prop:=okA a b c d->okA x y z u/\x<=a/\y<=b/\z<=c/\u<=d
end Go.Proofs.YtdeeimaahdgeaaaGreatDoor.spec
namespace Go.Proofs.YtdeeimaahdgeaaaGreatDoor.spec
open Go Go.Sy
inductive RT where
 | leaf (k:Int) (a b:List Nat) (n:Int)
 | not (t:RT)
 | two (k:Int) (t u:RT)
namespace RT
def size:RT->Nat
 | .leaf ..=>1
 | .not t=>t.size+1
 | .two _ t u=>t.size+u.size+1
def fl:RT->Nat->List AV
 | .leaf k a b n,_=>[nd6 k a b n (Int.negSucc 0) (Int.negSucc 0)]
 | .not t,o=>t.fl o++[nd6 7 [] [] (Int.ofNat 0) (Int.ofNat (o+t.size-1)) (Int.negSucc 0)]
 | .two k t u,o=>t.fl o++u.fl (o+t.size)++[nd6 k [] [] (Int.ofNat 0) (Int.ofNat (o+t.size-1)) (Int.ofNat (o+t.size+u.size-1))]
theorem size_pos:∀t:RT,0<t.size
 | .leaf ..=>Nat.one_pos
 | .not t=>Qz _
 | .two _ t u=>Qz _
theorem fl_length:∀(t:RT) (o:Nat),(t.fl o).length=t.size
 | .leaf ..,_=>rfl
 | .not t,o=>by rw [fl,QH,fl_length t];rfl
 | .two _ t u,o=>by rw [fl,QH,QH,fl_length t,fl_length u];rfl
end RT
def lowB (c:Nat):Bool:=decide (97<=c/\c<=122)
def digB (c:Nat):Bool:=decide (48<=c/\c<=57)
def namB (c:Nat):Bool:=lowB c||(digB c||c==45)
def wrdB (c:Nat):Bool:=decide (97<=c/\c<=122\/65<=c/\c<=90\/48<=c/\c<=57\/c=45\/c=95\/c=46)
def rn (f:Nat->Bool) (s:List Nat) (i:Nat):Nat:=((s.drop i).takeWhile f).length
def isAt (f:Nat->Bool) (s:List Nat) (i:Nat):Bool:=match s[i]? with
 | some c=>f c
 | none=>false
def sk (s:List Nat) (i:Nat):Nat:=i+rn (·==32) s i
def cutS (s:List Nat) (i j:Nat):List Nat:=List.drop i (List.take j s)
theorem zGy {f:Nat->Bool} {s:List Nat} {i:Nat} (h:isAt f s i=true):rn f s i=rn f s (i+1)+1:=by
 unfold isAt at h;unfold rn;cases hc:s[i]? with
 | none=>rw [hc] at h;cases h
 | some c=>
  rw [hc] at h;obtain ⟨d,rfl⟩:=QD.1 hc;have h:f s[i]=true:=h;rw [QZ d,List.takeWhile_cons_of_pos h];rfl
theorem zFJ {f:Nat->Bool} {s:List Nat} {i:Nat} (h:isAt f s i=false):rn f s i=0:=by
 unfold isAt at h;unfold rn;cases hc:s[i]? with
 | none=>rw [Qh (List.getElem?_eq_none_iff.1 hc)];rfl
 | some c=>
  rw [hc] at h;obtain ⟨d,rfl⟩:=QD.1 hc;have h:f s[i]=false:=h;rw [QZ d,List.takeWhile_cons_of_neg (by rw [h];decide)]
  rfl
theorem zIS {f:Nat->Bool} {s:List Nat} {i:Nat} (h:isAt f s i=true):i<s.length:=by
 unfold isAt at h;cases hc:s[i]? with
 | none=>rw [hc] at h;cases h
 | some c=>exact (QD.1 hc).1
theorem zA {f:Nat->Bool} {s:List Nat} {i:Nat} (h:i<s.length):isAt f s i=f s[i]:=by
 unfold isAt;rw [QC h]
theorem zBp {f:Nat->Bool} {s:List Nat} {i:Nat} (h:s.length<=i):isAt f s i=false:=by
 unfold isAt;rw [Qs h]
theorem zBY (f:Nat->Bool) (s:List Nat) (i:Nat) (h:i<=s.length):i+rn f s i<=s.length:=by
 have:rn f s i<=(s.drop i).length:=(List.takeWhile_sublist f).length_le;rw [Qk] at this;omega
theorem zDQ (f:Nat->Bool) (s:List Nat):∀(m i:Nat),s.length-i<=m->isAt f s (i+rn f s i)=false:=by
 intro m
 induction m with
 | zero=>
  intro i h;exact zBp (by omega)
 | succ m d=>
  intro i h;by_cases hc:isAt f s i=true
  ·have:=zIS hc;rw [zGy hc];have:=d (i+1) (by omega)
   rwa [show i+1+rn f s (i+1)=i+(rn f s (i+1)+1) by omega] at this
  ·have hc:isAt f s i=false:=by simpa using hc
   rw [zFJ hc];exact hc
theorem zCl {f:Nat->Bool} {s:List Nat}:∀(k i:Nat),k<rn f s i->isAt f s (i+k)=true:=by
 intro k
 induction k with
 | zero=>
  intro i h;cases hc:isAt f s i with
  | true=>rfl
  | false=>rw [zFJ hc] at h;omega
 | succ k d=>
  intro i h;cases hc:isAt f s i with
  | true=>
   rw [zGy hc] at h;have:=d (i+1) (by omega)
   rwa [show i+1+k=i+(k+1) by omega] at this
  | false=>rw [zFJ hc] at h;omega
theorem zLm (s:List Nat) (i:Nat):i<=sk s i:=Qu _ _
theorem zAM {s:List Nat} {i:Nat} (h:i<=s.length):sk s i<=s.length:=zBY _ s i h
theorem zYP (s:List Nat) (i:Nat):isAt (·==32) s (sk s i)=false:=zDQ _ s _ i (QA _)
theorem zJ9 {s:List Nat} {i:Nat} (h:isAt (·==32) s i=false):sk s i=i:=by unfold sk;rw [zFJ h];rfl
theorem zBL (s:List Nat) (i:Nat):sk s (sk s i)=sk s i:=zJ9 (zYP s i)
abbrev RE (α:Type):=Except (Int×Int) α
def numV (l:List Nat):Nat:=l.foldl (λ x c=>10*x+(c-48)) 0
def zNO (s:List Nat) (i:Nat):RE (Nat×List Nat):=
 if rn wrdB s (sk s i)=0 then .error (5,Int.ofNat (sk s i)) else if 32<rn wrdB s (sk s i) then .error (5,Int.ofNat (sk s i+32)) else .ok (sk s i+rn wrdB s (sk s i),cutS s (sk s i) (sk s i+rn wrdB s (sk s i)))
def zL0 (s:List Nat) (i:Nat):RE (Nat×Int):=
 if isAt wrdB s (sk s i+min 12 (rn digB s (sk s i)))=true then .error (5,Int.ofNat (sk s i+min 12 (rn digB s (sk s i)))) else
 if rn digB s (sk s i)=0 then .error (5,Int.ofNat (sk s i)) else .ok (sk s i+min 12 (rn digB s (sk s i)),Int.ofNat (numV (cutS s (sk s i) (sk s i+min 12 (rn digB s (sk s i))))))
def zKa (s:List Nat) (i n:Nat) (k:Int) (a:List Nat):RE (Nat×Nat×RT):=match zNO s i with
 | .error e=>.error e
 | .ok (j,v)=>.ok (j,n+1,.leaf k a v 0)
def zKb (s:List Nat) (i n:Nat) (k:Int) (a:List Nat):RE (Nat×Nat×RT):=match zL0 s i with
 | .error e=>.error e
 | .ok (j,x)=>.ok (j,n+1,.leaf k a [] x)
def zEo (s:List Nat) (j n:Nat) (a:List Nat):RE (Nat×Nat×RT):=
 if s[j]? = some 61 then zKa s (j+1) n 2 a else
 if s[j]? = some 33/\s[j+1]? = some 61 then zKa s (j+2) n 3 a else
 if s[j]? = some 62/\s[j+1]? = some 61 then zKb s (j+2) n 4 a else
 if s[j]? = some 60/\s[j+1]? = some 61 then zKb s (j+2) n 5 a else
 if s[j]? = some 33\/s[j]? = some 62\/s[j]? = some 60 then .error (5,Int.ofNat (j+1)) else .ok (j,n+1,.leaf 6 a [] 0)
def zDy (s:List Nat) (i n:Nat):RE (Nat×Nat×RT):=
 if isAt lowB s i=false then .error (5,Int.ofNat i) else
 if isAt wrdB s (i+min 24 (rn namB s i))=true then .error (5,Int.ofNat (i+min 24 (rn namB s i))) else
 if 64<n+1 then .error (3,Int.ofNat i) else
 if cutS s i (i+min 24 (rn namB s i))=[97,110,121] then .ok (i+min 24 (rn namB s i),n+1,.leaf 1 [] [] 0) else
 zEo s (sk s (i+min 24 (rn namB s i))) n (cutS s i (i+min 24 (rn namB s i)))
abbrev Rd:=Nat->Nat->RE (Nat×Nat×RT)
def zHf (next:Rd) (s:List Nat) (d:Nat) (k:Int):Nat->Nat->Nat->RT->RE (Nat×Nat×RT)
 | 0,i,n,t=>.ok (i,n,t)
 | m+1,i,n,t=>if s[sk s i]? = some d then
   if 64<n+1 then .error (3,Int.ofNat (sk s i)) else match next (sk s i+1) (n+1) with
    | .error e=>.error e
    | .ok (h,g,u)=>zHf next s d k m h g (.two k t u)
  else .ok (sk s i,n,t)
def zEp (next:Rd) (s:List Nat) (h:Nat) (k:Int):Rd:=λ i n=>match next i n with
 | .error e=>.error e
 | .ok (g,d,t)=>zHf next s h k 65 g d t
def zL1 (s:List Nat) (r:RE (Nat×Nat×RT)):RE (Nat×Nat×RT):=match r with
 | .error e=>.error e
 | .ok (i,n,t)=>if s[sk s i]? = some 41 then .ok (sk s i+1,n,t) else .error (5,Int.ofNat (sk s i))
def notM (r:RE (Nat×Nat×RT)):RE (Nat×Nat×RT):=match r with
 | .error e=>.error e
 | .ok (i,n,t)=>.ok (i,n,.not t)
def oneM (s:List Nat):Nat->Rd
 | 0,i,n=>if s[sk s i]? = some 33\/s[sk s i]? = some 40 then .error (3,Int.ofNat (sk s i)) else zDy s (sk s i) n
 | g+1,i,n=>if s[sk s i]? = some 33 then
   if 64<n+1 then .error (3,Int.ofNat (sk s i)) else notM (oneM s g (sk s i+1) (n+1))
  else if s[sk s i]? = some 40 then zL1 s (zEp (zEp (oneM s g) s 38 8) s 124 9 (sk s i+1) n)
  else zDy s (sk s i) n
abbrev andM (s:List Nat) (g:Nat):Rd:=zEp (oneM s g) s 38 8
abbrev orM (s:List Nat) (g:Nat):Rd:=zEp (andM s g) s 124 9
def RT.tg:RT->Int
 | .two k _ _=>if k=9 then 0 else if k=8 then 1 else 2
 | _=>2
def decI (n:Int):List Nat:=(Lib.itoa n).map UInt8.toNat
def zJb (k:Int) (a b:List Nat) (n:Int):List Nat:=
 if k=1 then [97,110,121] else if k=2 then a++[61]++b else if k=3 then a++[33,61]++b else if k=4 then a++[62,61]++decI n else if k=5 then a++[60,61]++decI n else a
def parT (g m:Int) (s:List Nat):List Nat:=if g<m then [40]++s++[41] else s
def RT.told:RT->List Nat
 | .leaf k a b n=>zJb k a b n
 | .not t=>[33]++parT t.tg 2 t.told
 | .two k t u=>if k=8 then parT t.tg 1 t.told++[32,38,32]++parT u.tg 2 u.told else parT t.tg 0 t.told++[32,124,32]++parT u.tg 1 u.told
def zFs (s:List Nat):RE RT:=
 if 1024<s.length then .error (3,Int.negSucc 0) else match orM s 32 0 0 with
  | .error e=>.error e
  | .ok (i,n,t)=>if sk s i<s.length then .error (5,Int.ofNat (sk s i)) else if 1024<t.told.length then .error (3,Int.negSucc 0) else .ok t
end Go.Proofs.YtdeeimaahdgeaaaGreatDoor.spec
namespace Go.Proofs.YtdeeimaahdgeaaaGreatDoor.spec
open Go Go.Sy
theorem beqN {x y:Nat}:((Int.ofNat x==Int.ofNat y)=true)↔x=y:=by
 rw [beq_iff_eq];exact Int.ofNat_inj
theorem zBh {x y:Nat}:((Int.ofNat x==Int.ofNat y)=false)↔x≠y:=by
 rw [beq_eq_false_iff_ne];exact not_congr Int.ofNat_inj
def zL2 (m:Nat) (a:List Nat):Prop:=a.length<=m/\isAt lowB a 0=true/\∀c∈a,namB c=true
def zSr (a:List Nat):Prop:=a≠[]/\a.length<=32/\∀c∈a,wrdB c=true
def zVv (k:Int) (a b:List Nat) (n:Int):Prop:=
 k=1/\a=[]/\b=[]/\n=0\/zL2 24 a/\a≠[97,110,121]/\((k=2\/k=3)/\zSr b/\n=0\/(k=4\/k=5)/\b=[]/\0<=n/\n<=999999999999\/k=6/\b=[]/\n=0)
def RT.wf:RT->Prop
 | .leaf k a b n=>zVv k a b n
 | .not t=>t.wf
 | .two k t u=>(k=8\/k=9)/\t.wf/\u.wf
def RdOK (s:List Nat) (next:Rd):Prop:=∀i n g d t,i<=s.length->n<=64->next i n=.ok (g,d,t)->i<g/\g<=s.length/\d=n+t.size/\d<=64/\t.wf
theorem zCg {s:List Nat} {i c:Nat} (h:s[i]? = some c):i<s.length:=(QD.1 h).1
theorem zB4 {s:List Nat} {i k:Nat} (h:i+k<=s.length):(cutS s i (i+k)).length=k:=by
 unfold cutS;rw [Qk,Qe];omega
theorem zIT {s:List Nat} {i k j:Nat} (h:i+k<=s.length) (d:j<k):(cutS s i (i+k))[j]? = s[i+j]?:=by
 unfold cutS;rw [List.getElem?_drop,List.getElem?_take_of_lt (by omega)]
theorem zNP {f:Nat->Bool} {s:List Nat} {i k j:Nat} (h:i+k<=s.length) (d:j<k):isAt f (cutS s i (i+k)) j=isAt f s (i+j):=by
 unfold isAt;rw [zIT h d]
theorem zHo {f:Nat->Bool} {s:List Nat} {i k:Nat} (h:i+k<=s.length) (r:k<=rn f s i):∀c∈cutS s i (i+k),f c=true:=by
 intro c hc;obtain ⟨j,q⟩:=List.getElem?_of_mem hc;have g:j<k:=by have:=zCg q;rwa [zB4 h] at this
 have d:=zCl (f:=f) (s:=s) j i (by omega)
 rw [←zNP h g] at d;unfold isAt at d;rw [q] at d;exact d
theorem zTy:∀(l:List Nat) (x b:Nat),(∀c∈l,digB c=true)->x<b->l.foldl (λ x c=>10*x+(c-48)) x<b*10 ^ l.length
 | [],x,b,_,h=>by simpa using h
 | c::r,x,b,h,d=>by
  have hc:digB c=true:=h c (.head _);unfold digB at hc;have hc:=QS hc;have:=zTy r (10*x+(c-48)) (b*10) (λ c hc=>h c (.tail _ hc)) (by omega)
  show r.foldl _ (10*x+(c-48))<_
  rw [QT,Nat.pow_succ]
  calc _<b*10*10 ^ r.length:=this
   _=b*(10 ^ r.length*10):=by rw [Nat.mul_assoc,Nat.mul_comm 10]
theorem zQs {l:List Nat} (h:∀c∈l,digB c=true) (hl:l.length<=12):numV l<=999999999999:=by
 have d:=zTy l 0 1 h (by omega)
 have g:10 ^ l.length<=10 ^ 12:=Nat.pow_le_pow_right (by omega) hl
 have j:(10:Nat) ^ 12=1000000000000:=by decide
 have d:numV l<1*10 ^ l.length:=d;omega
theorem zVw {s:List Nat} {i j:Nat} {v:List Nat} (g:i<=s.length) (h:zNO s i=.ok (j,v)):i<j/\j<=s.length/\zSr v:=by
 unfold zNO at h;split at h
 ·cases h
 ·rename_i h0;split at h
  ·cases h
  ·rename_i k;cases h;have d:=zBY wrdB s (sk s i) (zAM g);have q:=zLm s i;refine ⟨by omega,d,λ e=>?_,?_,zHo d (QA _)⟩
   ·have:=zB4 d;rw [e] at this;exact h0 this.symm
   ·rw [zB4 d];omega
theorem zUi {s:List Nat} {i j:Nat} {x:Int} (g:i<=s.length) (h:zL0 s i=.ok (j,x)):i<j/\j<=s.length/\0<=x/\x<=999999999999:=by
 unfold zL0 at h;split at h
 ·cases h
 ·split at h
  ·cases h
  ·rename_i q;cases h;have k:=zBY digB s (sk s i) (zAM g);have t:=zLm s i;have d:sk s i+min 12 (rn digB s (sk s i))<=s.length:=by omega
   have r:=zQs (zHo d (Nat.min_le_right _ _)) (by rw [zB4 d];exact Nat.min_le_left _ _)
   refine ⟨by omega,d,QV _,?_⟩
   rw [qr];omega
theorem zSs {s:List Nat} {i n d n':Nat} {k:Int} {a:List Nat} {t:RT} (q:k=2\/k=3) (g:zL2 24 a/\a≠[97,110,121]) (B:i<=s.length) (h:zKa s i n k a=.ok (d,n',t)):i<d/\d<=s.length/\n'=n+t.size/\t.wf:=by
 unfold zKa at h;split at h
 ·cases h
 ·rename_i j v r;cases h;obtain ⟨z,u,A⟩:=zVw B r;exact ⟨z,u,rfl,.inr ⟨g.1,g.2,.inl ⟨q,A,rfl⟩⟩⟩
theorem zSt {s:List Nat} {i n d n':Nat} {k:Int} {a:List Nat} {t:RT} (q:k=4\/k=5) (g:zL2 24 a/\a≠[97,110,121]) (B:i<=s.length) (h:zKb s i n k a=.ok (d,n',t)):i<d/\d<=s.length/\n'=n+t.size/\t.wf:=by
 unfold zKb at h;split at h
 ·cases h
 ·rename_i j v r;cases h;obtain ⟨z,u,A⟩:=zUi B r;exact ⟨z,u,rfl,.inr ⟨g.1,g.2,.inr (.inl ⟨q,rfl,A⟩)⟩⟩
theorem zWp {s:List Nat} {i n j n':Nat} {a:List Nat} {t:RT} (g:zL2 24 a/\a≠[97,110,121]) (k:i<=s.length) (h:zEo s i n a=.ok (j,n',t)):i<=j/\j<=s.length/\n'=n+t.size/\t.wf:=by
 unfold zEo at h;have lt:∀{a b c:Nat} {p:Prop},a+b<c/\p->a<=c/\p:=λ h=>⟨by omega,h.2⟩
 split at h
 ·rename_i d;exact lt (zSs (.inl rfl) g (zCg d) h)
 split at h
 ·rename_i d;exact lt (zSs (.inr rfl) g (zCg d.2) h)
 split at h
 ·rename_i d;exact lt (zSt (.inl rfl) g (zCg d.2) h)
 split at h
 ·rename_i d;exact lt (zSt (.inr rfl) g (zCg d.2) h)
 split at h
 ·cases h
 ·cases h;exact ⟨QA _,k,rfl,.inr ⟨g.1,g.2,.inr (.inr ⟨rfl,rfl,rfl⟩)⟩⟩
theorem zQ9 {c:Nat} (h:lowB c=true):namB c=true:=by unfold namB;rw [h];rfl
theorem zSu (s:List Nat):RdOK s (zDy s):=by
 intro i n I B t r G h;unfold zDy at h;split at h
 ·cases h
 rename_i g;have g:isAt lowB s i=true:=by simpa using g
 have k:=zIS g;split at h
 ·cases h
 split at h
 ·cases h
 rename_i C F;have E:1<=rn namB s i:=by
  rw [zGy (f:=namB) (s:=s) (i:=i)]
  ·omega
  ·unfold isAt at g ⊢;split at g
   ·exact zQ9 g
   ·cases g
 have A:=zBY namB s i r;have d:i+min 24 (rn namB s i)<=s.length:=by omega
 split at h
 ·rename_i j;cases h;exact ⟨by omega,d,rfl,by omega,.inl ⟨rfl,rfl,rfl,rfl⟩⟩
 ·rename_i j;have z:zL2 24 (cutS s i (i+min 24 (rn namB s i))):=by
   refine ⟨by rw [zB4 d];omega,?_,zHo d (Nat.min_le_right _ _)⟩
   rw [zNP d (by omega)]
   exact g
  obtain ⟨D,u,q,h8⟩:=zWp ⟨z,j⟩ (zAM d) h;have:=zLm s (i+min 24 (rn namB s i));have H:t.size=1:=by
   cases t with
   | leaf=>rfl
   | _=>
    exfalso
    unfold zEo zKa zKb at h
    repeat' split at h
    all_goals cases h
  refine ⟨by omega,u,q,by omega,h8⟩
theorem zWq {s:List Nat} {next:Rd} {F:Nat} {k:Int} (K:RdOK s next) (B:k=8\/k=9):∀(m i n:Nat) (t:RT) (g n':Nat) (d:RT),i<=s.length->n<=64->t.wf->zHf next s F k m i n t=.ok (g,n',d)->i<=g/\g<=s.length/\n'+t.size=n+d.size/\n'<=64/\d.wf:=by
 intro m
 induction m with
 | zero=>
  intro i n t g n' d r z j h;cases h;exact ⟨QA _,r,rfl,z,j⟩
 | succ m I=>
  intro i n t g n' d r z j h;rw [zHf] at h;split at h
  ·rename_i hc;split at h
   ·cases h
   ·split at h
    ·cases h
    ·rename_i i1 J u G;have hc:=zCg hc;obtain ⟨M,A,O,C,E⟩:=K _ _ _ _ _ (by omega) (by omega) G
     obtain ⟨Q,D,h8,H,q⟩:=I i1 J (.two k t u) g n' d A C ⟨B,j,E⟩ h;have:=zLm s i;refine ⟨by omega,D,?_,H,q⟩
     have:(RT.two k t u).size=t.size+u.size+1:=rfl;omega
  ·cases h;exact ⟨zLm s i,zAM r,rfl,z,j⟩
theorem zLn {s:List Nat} {next:Rd} {C:Nat} {k:Int} (g:RdOK s next) (r:k=8\/k=9):RdOK s (zEp next s C k):=by
 intro i n I j t D F h;unfold zEp at h;split at h
 ·cases h
 ·rename_i i1 H u E;obtain ⟨J,q,K,z,B⟩:=g _ _ _ _ _ D F E;obtain ⟨M,A,h8,G,d⟩:=zWq g r 65 i1 H u I j t q z B h;exact ⟨by omega,A,by omega,G,d⟩
theorem zIU (s:List Nat):∀g,RdOK s (oneM s g):=by
 intro g
 induction g with
 | zero=>
  intro i n G E t z j h;rw [oneM] at h;split at h
  ·cases h
  ·have:=zLm s i;obtain ⟨q,d⟩:=zSu s _ _ _ _ _ (zAM z) j h;exact ⟨by omega,d⟩
 | succ g D=>
  intro i n G E t z j h;have:=zLm s i;rw [oneM] at h;split at h
  ·rename_i hc;have hc:=zCg hc;split at h
   ·cases h
   ·unfold notM at h;split at h
    ·cases h
    ·rename_i i1 F u A;cases h;obtain ⟨q,d,B,k,r⟩:=D _ _ _ _ _ (by omega) (by omega) A
     have:(RT.not u).size=u.size+1:=rfl;exact ⟨by omega,d,by omega,k,r⟩
  split at h
  ·rename_i hc;have hc:=zCg hc;unfold zL1 at h;split at h
   ·cases h
   ·rename_i i1 F u A;split at h
    ·rename_i C;have C:=zCg C;cases h;obtain ⟨q,d,B,k,r⟩:=zLn (zLn D (.inl rfl)) (.inr rfl) _ _ _ _ _ (by omega) j A
     have:=zLm s i1;exact ⟨by omega,by omega,B,k,r⟩
    ·cases h
  ·obtain ⟨q,d⟩:=zSu s _ _ _ _ _ (zAM z) j h;exact ⟨by omega,d⟩
theorem zL3 (s:List Nat) (g:Nat):RdOK s (andM s g):=zLn (zIU s g) (.inl rfl)
theorem zNQ (s:List Nat) (g:Nat):RdOK s (orM s g):=zLn (zL3 s g) (.inr rfl)
theorem zNR {s:List Nat} {t:RT} (h:zFs s=.ok t):t.wf/\t.size<=64/\t.told.length<=1024:=by
 unfold zFs at h;split at h
 ·cases h
 split at h
 ·cases h
 rename_i i n u g;split at h
 ·cases h
 split at h
 ·cases h
 cases h;obtain ⟨_,_,k,j,d⟩:=zNQ s 32 _ _ _ _ _ (QP _) (by omega) g
 exact ⟨d,by omega,by omega⟩
end Go.Proofs.YtdeeimaahdgeaaaGreatDoor.spec
namespace Go.Proofs.YtdeeimaahdgeaaaGreatDoor.spec
open Go Go.Sy
variable [MX]
structure FL where
 e:Int
 f:Int
 b:Bool
def FL.fail (x:FL) (e f:Int):FL:=if x.b=true then x else ⟨e,f,true⟩
theorem FL.ug (x:FL) (e f:Int):(x.fail e f).b=true:=by unfold FL.fail;split <;> simp_all
theorem FL.qH {x:FL} (h:x.b=true) (e f:Int):x.fail e f=x:=if_pos h
theorem FL.qt {x:FL} (h:x.b=false) (e f:Int):x.fail e f=⟨e,f,true⟩:=if_neg (by rw [h];decide)
abbrev outB (v:AV) (s:List Nat) (i:Int) (x:FL) (n:Int) (l:List AV):AV×Heap×Vecs:=(v,[(0,HO.cells false [.str s,.int .i64 i,AV.sym 0,.int .i64 x.e,.int .i64 x.f,.bool x.b,.int .i64 n])],[(0,VI.vec 6 l)])
section
variable {β:Type} {wk:Bool} {P:β->Prop} {o:Option (AV×Heap×Vecs)} {s:List Nat} {i:Int} {x:FL} {n:Int} {l:List AV}
theorem qdU {f:List Nat->Int->Int->Int->Bool->Int->List AV->Option β} (h:o=some (outB (.qc []) s i x n l)) (k:Wp (f s i x.e x.f x.b n l) P):Wp (dD wk [D.v (K.qc 0),D.hc 0 false 7,D.v K.s,D.v (K.i IntKind.i64),D.v (K.c (AV.sym 0)),D.v (K.i IntKind.i64),D.v (K.i IntKind.i64),D.v K.b,D.v (K.i IntKind.i64),D.vec 0 6] o f) P:=by
 subst h;exact k
theorem qdI {y:Int} {f:Int->List Nat->Int->Int->Int->Bool->Int->List AV->Option β} (h:o=some (outB (.int .i64 y) s i x n l)) (k:Wp (f y s i x.e x.f x.b n l) P):Wp (dD wk [D.v (K.i IntKind.i64),D.hc 0 false 7,D.v K.s,D.v (K.i IntKind.i64),D.v (K.c (AV.sym 0)),D.v (K.i IntKind.i64),D.v (K.i IntKind.i64),D.v K.b,D.v (K.i IntKind.i64),D.vec 0 6] o f) P:=by
 subst h;exact k
theorem qd8 {y:Int} {f:Int->List Nat->Int->Int->Int->Bool->Int->List AV->Option β} (h:o=some (outB (.int .u8 y) s i x n l)) (k:Wp (f y s i x.e x.f x.b n l) P):Wp (dD wk [D.v (K.i IntKind.u8),D.hc 0 false 7,D.v K.s,D.v (K.i IntKind.i64),D.v (K.c (AV.sym 0)),D.v (K.i IntKind.i64),D.v (K.i IntKind.i64),D.v K.b,D.v (K.i IntKind.i64),D.vec 0 6] o f) P:=by
 subst h;exact k
theorem qdS {y:List Nat} {f:List Nat->List Nat->Int->Int->Int->Bool->Int->List AV->Option β} (h:o=some (outB (.str y) s i x n l)) (k:Wp (f y s i x.e x.f x.b n l) P):Wp (dD wk [D.v K.s,D.hc 0 false 7,D.v K.s,D.v (K.i IntKind.i64),D.v (K.c (AV.sym 0)),D.v (K.i IntKind.i64),D.v (K.i IntKind.i64),D.v K.b,D.v (K.i IntKind.i64),D.vec 0 6] o f) P:=by
 subst h;exact k
end
theorem zKH (c:Nat):zAk (Int.ofNat c)=some (.bool (wrdB c)):=by
 refine zi ?_
 rw [zIo]
 repeat' first | refine Wp.ite (λ _=>?_) (λ _=>?_) | refine Wp.if (λ _=>?_) (λ _=>?_) | refine Wp.mk ?_
 all_goals simp only [qr,ge_iff_le,beq_iff_eq,beq_eq_false_iff_ne,ne_eq] at *
 all_goals refine congrArg AV.bool ?_
 all_goals unfold wrdB
 all_goals first
  | exact (QI (by omega)).symm
  | (rw [Bool.eq_iff_iff,decide_eq_true_iff];simp only [beq_iff_eq];omega)
section
variable {s:List Nat} (hs:s.length<=65536) (x:FL) (n:Int) (l:List AV)
include hs
theorem zO6 (i:Nat) (k:i<=s.length):zAb s (Int.ofNat i) x.e x.f x.b n l=some (outB (.qc []) s (Int.ofNat (sk s i)) x n l):=by
 have loop:∀(m i:Nat),i<=s.length->s.length-i<m->zAD m s (Int.ofNat i) x.e x.f x.b n l=some (outB (.qc []) s (Int.ofNat (sk s i)) x n l):=by
  intro m
  induction m with
  | zero=>intro i _ h;omega
  | succ m q=>
   intro i k r;refine zi ?_
   rw [zFU];refine Wp.lt (λ d=>Wp.bd (R:=λ c=>c=s[i]) ⟨_,zAw d,rfl⟩ λ c hc=>Wp.if (λ h=>?_) λ h=>?_) λ j=>Wp.mk ?_
   ·subst hc;have g:isAt (·==32) s i=true:=by rw [zA d];exact beq_iff_eq.2 ((beqN (y:=32)).1 h)
    rw [zFT,zc (by omega),q (i+1) d (by omega)]
    refine Wp.mk ?_
    unfold sk;rw [zGy g,show i+1+rn (·==32) s (i+1)=i+(rn (·==32) s (i+1)+1) by omega]
   ·subst hc;have g:isAt (·==32) s i=false:=by rw [zA d];exact beq_eq_false_iff_ne.2 ((zBh (y:=32)).1 h)
    refine Wp.mk ?_
    rw [zJ9 g]
   ·rw [zJ9 (zBp j)]
 rw [zGH];exact loop FUEL i k (by have:=zC (n:=65537) (by omega);omega)
def pk (s:List Nat) (i:Nat):Nat:=(s[sk s i]?).getD 0
theorem zKI (i:Nat) (h:i<=s.length):zu s (Int.ofNat i) x.e x.f x.b n l=some (outB (.int .u8 (Int.ofNat (pk s i))) s (Int.ofNat (sk s i)) x n l):=by
 refine zi ?_
 rw [zG7];refine qdU (zO6 hs x n l i h) (Wp.lt (λ d=>Wp.bd (R:=λ c=>c=s[sk s i]) ⟨_,zAw d,rfl⟩ λ c hc=>Wp.mk ?_) λ g=>Wp.mk ?_)
 ·subst hc;unfold pk;rw [QC d];rfl
 ·unfold pk;rw [Qs g];rfl
omit hs in
theorem zFt (e f:Int) (i:Int):zj e f s i x.e x.f x.b n l=some (outB (.qc []) s i (x.fail e f) n l):=by
 refine zi ?_
 rw [zG8];refine Wp.if (λ h=>Wp.mk ?_) λ h=>Wp.mk ?_
 ·rw [FL.qt (by simpa using h)]
 ·rw [FL.qH (by simpa using h)]
omit hs in
theorem zOj (f:Int) (i:Int):zw f s i x.e x.f x.b n l=some (outB (.qc []) s i (if 64<wrapx .i64 (n+1) then x.fail 3 f else x) (wrapx .i64 (n+1)) l):=by
 refine zi ?_
 rw [zGX];refine Wp.ite (λ h=>qdU (zFt x (wrapx .i64 (n+1)) l _ f i) (Wp.mk ?_)) λ h=>Wp.mk ?_
 ·rw [if_pos h];rfl
 ·rw [if_neg h]
omit hs in
theorem zRF (k:Int) (a b:List Nat) (m p q:Int) (i:Int) (hl:x.b=false->l.length<=64):zv k a b m p q s i x.e x.f x.b n l=some (outB (.int .i64 (wrapx .i64 (Int.ofNat (if x.b=true then l else l++[nd6 k a b m p q]).length-1))) s i x n (if x.b=true then l else l++[nd6 k a b m p q])):=by
 refine zi ?_
 rw [zHu];refine Wp.if (λ h=>?_) λ h=>?_
 ·have hb:x.b=false:=by simpa using h
  have:=hl hb;refine Wp.gd ?_ ?_
  ·show (l.length+1)*64<=zd/\l.length+1<=zd
   unfold zd;omega
  ·rw [zDa];refine Wp.mk ?_
   rw [if_neg (by rw [hb];decide)]
   rfl
 ·have hb:x.b=true:=by simpa using h
  rw [zDa];refine Wp.mk ?_
  rw [if_pos hb]
theorem zWX (i:Nat) (t:i<=s.length):zBi s (Int.ofNat i) x.e x.f x.b n l=some (outB (.str (cutS s i (i+rn wrdB s i))) s (Int.ofNat (i+rn wrdB s i)) x n l):=by
 have loop:∀(m j:Nat),i<=j->j<=s.length->s.length-j<m->zA2 m (Int.ofNat i) s (Int.ofNat j) x.e x.f x.b n l=some (outB (.str (cutS s i (j+rn wrdB s j))) s (Int.ofNat (j+rn wrdB s j)) x n l):=by
  intro m
  induction m with
  | zero=>intro j _ _ h;omega
  | succ m z=>
   intro j q u A;refine zi ?_
   have g:isAt wrdB s j=false->Wp (gd (decide (0<=Int.ofNat i/\Int.ofNat i<=Int.ofNat j/\Int.ofNat j<=Int.ofNat s.length)) (some (AV.str (List.drop (Int.toNat (Int.ofNat i)) (List.take (Int.toNat (Int.ofNat j)) s)),[(0,HO.cells false [.str s,.int .i64 (Int.ofNat j),AV.sym 0,.int .i64 x.e,.int .i64 x.f,.bool x.b,.int .i64 n])],[(0,VI.vec 6 l)]))) λ v=>v=outB (.str (cutS s i (j+rn wrdB s j))) s (Int.ofNat (j+rn wrdB s j)) x n l:=λ h=>by
    refine Wp.gd ⟨QV _,Qi.2 q,Qi.2 u⟩ (Wp.mk ?_)
    rw [zFJ h];rfl
   rw [zGJ];refine Wp.lt (λ d=>Wp.bd (R:=λ c=>c=s[j]) ⟨_,zAw d,rfl⟩ λ c hc=>qk_b (zKH c) (Wp.if (λ h=>?_) λ h=>?_)) λ k=>g (zBp k)
   ·subst hc;have r:isAt wrdB s j=true:=by rw [zA d];exact h
    rw [zGI,zc (by omega),z (j+1) (by omega) d (by omega)]
    refine Wp.mk ?_
    rw [zGy r,show j+1+rn wrdB s (j+1)=j+(rn wrdB s (j+1)+1) by omega]
   ·subst hc;exact g (by rw [zA d];exact h)
 rw [zHv];exact loop FUEL i (QA _) t (by have:=zC (n:=65537) (by omega);omega)
def valF (x:FL) (s:List Nat) (j:Nat):FL:=if 32<rn wrdB s j then (if rn wrdB s j=0 then x.fail 5 (Int.ofNat j) else x).fail 5 (Int.ofNat (j+32)) else if rn wrdB s j=0 then x.fail 5 (Int.ofNat j) else x
theorem zXY (i:Nat) (q:i<=s.length):zAp s (Int.ofNat i) x.e x.f x.b n l=some (outB (.str (cutS s (sk s i) (sk s i+rn wrdB s (sk s i)))) s (Int.ofNat (sk s i+rn wrdB s (sk s i))) (valF x s (sk s i)) n l):=by
 refine zi ?_
 have g:=zAM q;have k:=zBY wrdB s (sk s i) g;rw [zGY];refine qdU (zO6 hs x n l i q) (qdS (zWX hs x n l (sk s i) g) ?_)
 have j:∀y:FL,Wp (zAI (Int.ofNat (sk s i)) (cutS s (sk s i) (sk s i+rn wrdB s (sk s i))) s (Int.ofNat (sk s i+rn wrdB s (sk s i))) y.e y.f y.b n l) λ v=>v=outB (.str (cutS s (sk s i) (sk s i+rn wrdB s (sk s i)))) s (Int.ofNat (sk s i+rn wrdB s (sk s i))) (if 32<rn wrdB s (sk s i) then y.fail 5 (Int.ofNat (sk s i+32)) else y) n l:=λ y=>by
  rw [zF2,zB4 k];refine Wp.ite (λ h=>?_) λ h=>Wp.mk ?_
  ·have h:32<rn wrdB s (sk s i):=by rw [qr] at h;omega
   rw [zL (by rw [qr];omega) (by rw [qr];omega)]
   refine qdU (zFt y n l 5 _ _) (Wp.mk ?_)
   rw [if_pos h];rfl
  ·rw [if_neg (by rw [qr] at h;omega)]
 rw [zB4 k];refine Wp.if (λ h=>qdU (zFt x n l 5 _ _) ((j _).mono λ v d=>?_)) λ h=>(j _).mono λ v d=>?_
 ·have h:rn wrdB s (sk s i)=0:=by simpa [qr] using h
  rw [d];unfold valF;rw [if_pos h]
 ·have h:¬rn wrdB s (sk s i)=0:=by simpa [qr] using h
  rw [d];unfold valF;rw [if_neg h]
end
end Go.Proofs.YtdeeimaahdgeaaaGreatDoor.spec
namespace Go.Proofs.YtdeeimaahdgeaaaGreatDoor.spec
open Go Go.Sy
variable [MX]
theorem zTz {f g:Nat->Bool} (h:∀c,f c=true->g c=true) (s:List Nat):∀(m i:Nat),s.length-i<=m->rn f s i<=rn g s i:=by
 intro m
 induction m with
 | zero=>intro i k;rw [zFJ (zBp (by omega))];omega
 | succ m d=>
  intro i k;by_cases hc:isAt f s i=true
  ·have j:isAt g s i=true:=by
    unfold isAt at hc ⊢;split at hc
    ·exact h _ hc
    ·cases hc
   rw [zGy hc,zGy j];have:=d (i+1) (by have:=zIS hc;omega)
   omega
  ·rw [zFJ (by simpa using hc)];omega
theorem zTA (c:Nat) (h:digB c=true):wrdB c=true:=by
 unfold digB at h;unfold wrdB;have:=QS h;exact QI (by omega)
theorem zQt:∀(l:List Nat) (x:Nat),x<=l.foldl (λ x c=>10*x+(c-48)) x
 | [],x=>QA _
 | c::r,x=>by
  have:=zQt r (10*x+(c-48));show x<=r.foldl _ (10*x+(c-48))
  omega
theorem zVx {c:Nat} (h:digB c=true):wrapx .u8 (Int.ofNat c-48)=((c-48:Nat):Int):=by
 have h:=QS h;have:Int.ofNat c-48=Int.ofNat (c-48):=by rw [qr,qr];omega
 rw [this];have g:c-48<10:=by omega
 generalize c-48=d at g
 match d,g with
 | 0,_ | 1,_ | 2,_ | 3,_ | 4,_ | 5,_ | 6,_ | 7,_ | 8,_ | 9,_=>rfl
theorem zUj (w:List Nat) (hl:w.length<=12) (q:∀c∈w,digB c=true):zDC w=some (.qc [.int .i64 (Int.ofNat (numV w)),.bool (decide (0<w.length))]):=by
 have hb:=zQs q hl;have loop:∀(m i x:Nat),i<=w.length->w.length-i<m->(w.drop i).foldl (λ x c=>10*x+(c-48)) x=numV w->zBB m w (Int.ofNat x) (Int.ofNat i)=some (.qc [.int .i64 (Int.ofNat (numV w)),.bool (decide (0<w.length))]):=by
  intro m
  induction m with
  | zero=>intro i x _ h;omega
  | succ m B=>
   intro i x E F g;refine zi ?_
   rw [zHU];refine Wp.lt (λ d=>?_) λ k=>?_
   ·have hc:=q _ (Qq d);have t:=QS hc;rw [QZ d] at g;have g:(w.drop (i+1)).foldl (λ x c=>10*x+(c-48)) (10*x+(w[i]-48))=numV w:=g
    have D:=zQt (w.drop (i+1)) (10*x+(w[i]-48));refine Wp.bd (R:=λ c=>c=w[i]) ⟨_,zAw d,rfl⟩ λ c h=>Wp.ite (λ j=>?_) λ _=>Wp.bd (R:=λ c=>c=w[i]) ⟨_,zAw d,rfl⟩ λ c2 r=>Wp.ite (λ j=>?_) λ _=>?_
    ·subst h;rw [qr] at j;omega
    ·subst r;rw [qr] at j;omega
    ·rw [zHT];refine Wp.ite (λ _=>Wp.bd (R:=λ c=>c=w[i]) ⟨_,zAw d,rfl⟩ λ c3 u=>?_) λ j=>?_
     ·subst u;rw [zHS,zc (by omega),zVx hc]
      generalize w[i]=c at *;have z:wrapx .i64 (Int.ofNat x*10)=((10*x:Nat):Int):=by rw [qr,zL (by omega) (by omega)];omega
      have A:wrapx .i64 (((c-48:Nat):Int))=((c-48:Nat):Int):=zL (by omega) (by omega)
      have C:wrapx .i64 (((10*x:Nat):Int)+((c-48:Nat):Int))=Int.ofNat (10*x+(c-48)):=by rw [zL (by omega) (by omega),qr];omega
      rw [z,A,C];exact ⟨_,B (i+1) _ d (by omega) g,rfl⟩
     ·rw [qr] at j;omega
   ·rw [Qh k] at g;have g:x=numV w:=g;subst g;refine Wp.ite (λ h=>Wp.mk ?_) λ h=>Wp.mk ?_
    ·rw [qr] at h;rw [QI (show Int.ofNat w.length<=12 by rw [qr];omega),QI (show 0<w.length by omega)]
    ·rw [qr] at h;rw [QG (show ¬0<w.length by omega)]
 rw [zI0];exact loop FUEL 0 0 (QP _) (zC (by omega)) rfl
def zAN (m:Nat) (a:List Nat):Bool:=decide (a.length<=m)&&(isAt lowB a 0&&a.all namB)
theorem zKJ (a:List Nat) (m:Nat) (hl:a.length<=2000000):zBE a (Int.ofNat m)=some (.bool (zAN m a)):=by
 have loop:∀(n i:Nat),i<=a.length->a.length-i<n->zB0 n a (Int.ofNat i)=some (.bool ((a.drop i).all namB)):=by
  intro n
  induction n with
  | zero=>intro i _ h;omega
  | succ n z=>
   intro i A B;refine zi ?_
   rw [zIA];refine Wp.lt (λ g=>Wp.bd (R:=λ c=>c=a[i]) ⟨_,zAw g,rfl⟩ λ c hc=>?_) λ q=>Wp.mk ?_
   ·subst hc;have go:∀b:Bool,b=!namB a[i]->Wp (zI n a (Int.ofNat i) b) λ v=>v=.bool ((a.drop i).all namB):=λ b hb=>by
     rw [zIz,QZ g,QW];refine Wp.if (λ h=>Wp.mk ?_) λ h=>?_
     ·have:namB a[i]=false:=by rw [h] at hb;simpa using hb.symm
      rw [this];rfl
     ·have:namB a[i]=true:=by rw [h] at hb;simpa using hb.symm
      rw [zIy,zc (by omega),z (i+1) g (by omega),this]
      exact Wp.mk rfl
    generalize a[i]=c at go;have e:(decide (Int.ofNat c>=97),decide (Int.ofNat c<=122))=(decide (97<=c),decide (c<=122)):=by
     simp only [Prod.mk.injEq,decide_eq_decide,qr];omega
    repeat' first | refine Wp.ite (λ _=>?_) (λ _=>?_) | refine go _ ?_
    all_goals simp only [qr,ge_iff_le,Bool.not_eq_eq_eq_not,Bool.not_not] at *
    all_goals unfold namB lowB digB
    all_goals rw [Bool.eq_iff_iff]
    all_goals simp
    all_goals omega
   ·rw [Qh q];rfl
 have j:∀b:Bool,(b=true->zAN m a=false)->(b=false->zAN m a=a.all namB)->zAt a b=some (.bool (zAN m a)):=λ b k r=>by
  refine zi ?_
  rw [zIC];refine Wp.if (λ h=>Wp.mk (by rw [k h])) λ h=>?_
  rw [zIB,show Int.ofNat 0=Int.ofNat 0 from rfl,loop FUEL 0 (QP _) (zC (by omega))]
  refine Wp.mk ?_
  rw [r h];rfl
 refine zi ?_
 rw [zJH];refine Wp.ite (λ h=>⟨_,j _ (λ _=>?_) (λ h=>by cases h),rfl⟩) λ h0=>Wp.ite (λ h=>⟨_,j _ (λ _=>?_) (λ h=>by cases h),rfl⟩) λ k=>?_
 ·unfold zAN;rw [zBp (by rw [qr] at h;omega)];simp
 ·unfold zAN;rw [QG (by rw [qr] at h;simp at h;omega)];simp
 ·rw [qr] at h0 k;have hl:0<a.length:=by omega
  have u:ixN a 0=some a[0]:=zAw hl;have t:decide (a.length<=m)=true:=QI (by simp at k;omega)
  have d:isAt lowB a 0=lowB a[0]:=zA hl;rw [u];refine Wp.ite (λ h=>⟨_,j _ (λ _=>?_) (λ h=>by cases h),rfl⟩) λ r=>⟨_,j _ (λ h=>?_) (λ h=>?_),rfl⟩
  ·unfold zAN;rw [t,d];unfold lowB;rw [QG (by rw [qr] at h;omega)];simp
  ·have h:=QS h;unfold zAN;rw [t,d];unfold lowB;rw [QG (by rw [qr] at h;omega)];simp
  ·have h:=Qr h;unfold zAN;rw [t,d];unfold lowB;rw [QI (by rw [qr] at h r;omega)];simp
section
variable {s:List Nat} (hs:s.length<=65536) (x:FL) (n:Int) (l:List AV)
include hs
def kdig (s:List Nat) (j:Nat):Nat:=min 12 (rn digB s j)
def numF (x:FL) (s:List Nat) (j:Nat):FL:=if isAt wrdB s (j+kdig s j)=true then x.fail 5 (Int.ofNat (j+kdig s j)) else if rn digB s j=0 then x.fail 5 (Int.ofNat j) else x
def numR (s:List Nat) (j:Nat):Int:=if isAt wrdB s (j+kdig s j)=true then 0 else Int.ofNat (numV (cutS s j (j+kdig s j)))
theorem zWr (i:Nat) (T:i<=s.length):zAc s (Int.ofNat i) x.e x.f x.b n l=some (outB (.int .i64 (numR s (sk s i))) s (Int.ofNat (sk s i+rn wrdB s (sk s i))) (numF x s (sk s i)) n l):=by
 refine zi ?_
 have E:=zAM T;rw [zGK];refine qdU (zO6 hs x n l i T) (qdS (zWX hs x n l (sk s i) E) ?_)
 generalize sk s i=j at E;have B:=zBY wrdB s j E;have O:=zTz zTA s _ j (QA _);have H:kdig s j<=rn digB s j:=Nat.min_le_right _ _;have g:isAt wrdB s (j+kdig s j)=decide (kdig s j<rn wrdB s j):=by
  by_cases h:kdig s j<rn wrdB s j
  ·rw [QI h];exact zCl _ _ h
  ·rw [QG h,show kdig s j=rn wrdB s j by omega]
   exact zDQ wrdB s _ j (QA _)
 have X:∀t,t<rn wrdB s j->(cutS s j (j+rn wrdB s j))[t]? = s[j+t]?:=λ t R=>zIT B R
 have u:(cutS s j (j+rn wrdB s j)).length=rn wrdB s j:=zB4 B;have Q:∀y:FL,kdig s j=rn wrdB s j->Wp (zAE (cutS s j (j+rn wrdB s j)) s (Int.ofNat (j+rn wrdB s j)) y.e y.f y.b n l) λ v=>v=outB (.int .i64 (numR s j)) s (Int.ofNat (j+rn wrdB s j)) y n l:=λ y I=>by
  rw [zFW];have V:∀c∈cutS s j (j+rn wrdB s j),digB c=true:=by rw [←I] at B ⊢;exact zHo B H
  refine zXW (zUj _ (by rw [u,←I];exact Nat.min_le_left _ _) V) (Wp.mk ?_)
  unfold numR;rw [g,if_neg (by rw [QG (by omega)];decide),I]
 have loop:∀(m t:Nat),t<=kdig s j->rn wrdB s j-t<m->Wp (zAx m (Int.ofNat j) (cutS s j (j+rn wrdB s j)) (Int.ofNat t) s (Int.ofNat (j+rn wrdB s j)) x.e x.f x.b n l) λ v=>v=outB (.int .i64 (numR s j)) s (Int.ofNat (j+rn wrdB s j)) (numF x s j) n l:=by
  intro m
  induction m with
  | zero=>intro t _ h;omega
  | succ m Y=>
   intro t R hm;rw [zFB,u];refine Wp.lt (λ C=>?_) λ U=>?_
   ·have J:ixN (cutS s j (j+rn wrdB s j)) (Int.ofNat t)=s[j+t]?:=(zLY).trans (X t C);have q:j+t<s.length:=by omega
    have J:ixN (cutS s j (j+rn wrdB s j)) (Int.ofNat t)=some s[j+t]:=by rw [J,QC q]
    have M:∀b:Bool,b=decide (t=kdig s j)->Wp (zY m (Int.ofNat j) (cutS s j (j+rn wrdB s j)) (Int.ofNat t) b s (Int.ofNat (j+rn wrdB s j)) x.e x.f x.b n l) λ v=>v=outB (.int .i64 (numR s j)) s (Int.ofNat (j+rn wrdB s j)) (numF x s j) n l:=λ b hb=>by
     rw [zFV];refine Wp.if (λ h=>?_) λ h=>?_
     ·have hb:t=kdig s j:=by rw [h] at hb;exact QS hb.symm
      rw [zL (by rw [qr,qr];omega) (by rw [qr,qr];omega)]
      refine qdU (zFt x n l 5 _ _) (Wp.mk ?_)
      have k:isAt wrdB s (j+kdig s j)=true:=by rw [g,QI (by omega)]
      unfold numR numF;rw [if_pos k,if_pos k,hb];rfl
     ·have hb:¬t=kdig s j:=by rw [h] at hb;exact Qr hb.symm
      rw [zc (by omega)]
      exact Y (t+1) (by omega) (by omega)
    have d:t<kdig s j->digB s[j+t]=true:=λ h=>by
     have:=zCl (f:=digB) (s:=s) t j (by omega)
     rwa [zA q] at this
    have A:t=kdig s j->t<12->digB s[j+t]=false:=λ h z=>by
     have D:kdig s j=rn digB s j:=by unfold kdig at h ⊢;omega
     have:=zDQ digB s _ j (QA _);rw [←D,←h,zA q] at this;exact this
    have S:kdig s j<=12:=Nat.min_le_left _ _;rw [J];generalize s[j+t]=c at d A;have G:digB c=decide (48<=c/\c<=57):=rfl;refine Wp.ite (λ h=>M _ (QI ?_).symm) λ W=>Wp.ite (λ h=>M _ (QI ?_).symm) λ D=>M _ ?_
    ·by_cases F:t=kdig s j
     ·exact F
     ·have:=QS (d (by omega));rw [qr] at h;omega
    ·by_cases F:t=kdig s j
     ·exact F
     ·have:=QS (d (by omega));rw [qr] at h;omega
    ·have hc:digB c=true:=by rw [G];rw [qr] at W D;exact QI (by omega)
     refine decide_eq_decide.2 ?_
     rw [qr];refine ⟨λ h=>by omega,λ h=>?_⟩
     by_cases z:t<12
     ·rw [A h z] at hc;cases hc
     ·omega
   ·have e:kdig s j=rn wrdB s j:=by omega
    have r:isAt wrdB s (j+kdig s j)=false:=by rw [g,QG (by omega)]
    refine Wp.if (λ h=>?_) λ h=>?_
    ·have h:rn wrdB s j=0:=by simpa [qr] using h
     refine qdU (zFt x n l 5 _ _) ((Q _ e).mono λ v K=>?_)
     rw [K];unfold numF;rw [if_neg (by rw [r];decide),if_pos (by omega)]
    ·have h:¬rn wrdB s j=0:=by simpa [qr] using h
     refine (Q _ e).mono λ v K=>?_
     rw [K];unfold numF;rw [if_neg (by rw [r];decide),if_neg (by unfold kdig at e;omega)]
 exact loop FUEL 0 (QP _) (by have:=zC (n:=65537) (by omega);omega)
def nmE (s:List Nat) (i:Nat):Nat:=if isAt lowB s i=true then i+min 24 (rn namB s i) else i
def nmF (x:FL) (s:List Nat) (i:Nat):FL:=if isAt lowB s i=false\/isAt wrdB s (nmE s i)=true then x.fail 5 (Int.ofNat (nmE s i)) else x
omit hs in
theorem zVy {i:Nat} (d:i<=s.length):i<=nmE s i/\nmE s i<=s.length:=by
 have:=zBY namB s i d;unfold nmE;split <;> omega
theorem zYQ (i:Nat) (K:i<=s.length):zCo s (Int.ofNat i) x.e x.f x.b n l=some (outB (.str (cutS s i (nmE s i))) s (Int.ofNat (nmE s i)) (nmF x s i) n l):=by
 refine zi ?_
 have u:=zVy (s:=s) K;have q:∀t,t<s.length->i<=t->zAN 24 (cutS s i (t+1))=decide (t<nmE s i)\/nmE s i<t:=λ t z O=>by
  by_cases B:nmE s i<t
  ·exact .inr B
  refine .inl ?_
  have hl:=zBY namB s i K;obtain ⟨k,rfl⟩:∃k,t=i+k:=⟨t-i,by omega⟩
  have F:(cutS s i (i+(k+1))).length=k+1:=zB4 (by omega)
  have h0:isAt lowB (cutS s i (i+(k+1))) 0=isAt lowB s i:=zNP (by omega) (by omega)
  unfold zAN;rw [show i+k+1=i+(k+1) by omega,F,h0]
  cases hlow:isAt lowB s i with
  | false=>
   have:nmE s i=i:=by unfold nmE;rw [hlow];rfl
   rw [QG (show ¬i+k<nmE s i by omega)];simp
  | true=>
   have Q:nmE s i=i+min 24 (rn namB s i):=by unfold nmE;rw [hlow];rfl
   rw [Q] at B ⊢;by_cases H:k<min 24 (rn namB s i)
   ·have r:(cutS s i (i+(k+1))).all namB=true:=QF.2 (zHo (by omega) (by omega))
    rw [r,QI (show k+1<=24 by omega),QI (show i+k<i+min 24 (rn namB s i) by omega)];rfl
   ·rw [QG (show ¬i+k<i+min 24 (rn namB s i) by omega)]
    by_cases E:k+1<=24
    ·have H:k=rn namB s i:=by omega
     have:=zDQ namB s _ i (QA _);rw [←H] at this;have r:(cutS s i (i+(k+1))).all namB=false:=by
      rw [List.all_eq_false];refine ⟨s[i+k],QE (i:=k) ?_,?_⟩
      ·rw [zIT (by omega) (by omega),QC z]
      ·rw [zA z] at this;rw [this];decide
     rw [r];simp
    ·rw [QG E];simp
 rw [zG9];have D:∀y:FL,Wp (gd (decide (0<=Int.ofNat i/\Int.ofNat i<=Int.ofNat (nmE s i)/\Int.ofNat (nmE s i)<=Int.ofNat s.length)) (some (AV.str (List.drop (Int.toNat (Int.ofNat i)) (List.take (Int.toNat (Int.ofNat (nmE s i))) s)),[(0,HO.cells false [.str s,.int .i64 (Int.ofNat (nmE s i)),AV.sym 0,.int .i64 y.e,.int .i64 y.f,.bool y.b,.int .i64 n])],[(0,VI.vec 6 l)]))) λ v=>v=outB (.str (cutS s i (nmE s i))) s (Int.ofNat (nmE s i)) y n l:=λ y=>
  Wp.gd ⟨QV _,Qi.2 u.1,Qi.2 u.2⟩ (Wp.mk rfl)
 have J:∀b:Bool,b=decide (isAt lowB s i=false\/isAt wrdB s (nmE s i)=true)->nmF x s i=if b=true then x.fail 5 (Int.ofNat (nmE s i)) else x:=λ b hb=>by
  unfold nmF;by_cases h:isAt lowB s i=false\/isAt wrdB s (nmE s i)=true
  ·rw [hb,QI h,if_pos h];rfl
  ·rw [hb,QG h,if_neg h];rfl
 have M:∀b:Bool,b=decide (isAt lowB s i=false\/isAt wrdB s (nmE s i)=true)->Wp (z6 (Int.ofNat i) b s (Int.ofNat (nmE s i)) x.e x.f x.b n l) λ v=>v=outB (.str (cutS s i (nmE s i))) s (Int.ofNat (nmE s i)) (nmF x s i) n l:=λ b hb=>by
  rw [zGj,J b hb];refine Wp.if (λ h=>qdU (zFt x n l 5 _ _) ?_) λ h=>?_
  ·rw [zC1,if_pos h];exact D _
  ·rw [zC1,if_neg (by rw [h];decide)];exact D _
 have G:∀b:Bool,b=decide (isAt lowB s i=false\/isAt wrdB s (nmE s i)=true)->Wp (z7 (Int.ofNat i) b s (Int.ofNat (nmE s i)) x.e x.f x.b n l) λ v=>v=outB (.str (cutS s i (nmE s i))) s (Int.ofNat (nmE s i)) (nmF x s i) n l:=λ b hb=>by
  rw [zGk,J b hb];refine Wp.if (λ h=>qdU (zFt x n l 5 _ _) ?_) λ h=>?_
  ·rw [zC2,if_pos h];exact D _
  ·rw [zC2,if_neg (by rw [h];decide)];exact D _
 have d:nmE s i=i↔isAt lowB s i=false:=by
  unfold nmE;cases h:isAt lowB s i with
  | false=>simp
  | true=>
   have:rn namB s i=rn namB s (i+1)+1:=zGy (by unfold isAt at h ⊢;split at h;exact zQ9 h;cases h)
   simp;omega
 have loop:∀(m t:Nat),i<=t->t<=nmE s i->s.length-t<m->Wp (zAO m (Int.ofNat i) s (Int.ofNat t) x.e x.f x.b n l) λ v=>v=outB (.str (cutS s i (nmE s i))) s (Int.ofNat (nmE s i)) (nmF x s i) n l:=by
  intro m
  induction m with
  | zero=>intro t _ _ h;omega
  | succ m S=>
   intro t I T U;rw [zGl];refine Wp.lt (λ g=>?_) λ A=>?_
   ·have C:(List.drop (Int.toNat (Int.ofNat i)) (List.take (Int.toNat (Int.ofNat (t+1))) s))=cutS s i (t+1):=rfl;rw [zc (by omega),C]
    refine Wp.gd ⟨QV _,Qi.2 (by omega),Qi.2 g⟩ (qk_b (zKJ _ 24 ?_) (Wp.if (λ h=>?_) λ h=>?_))
    ·unfold cutS;rw [Qk,Qe];omega
    ·rw [zGi,zc (by omega)]
     refine S (t+1) (by omega) ?_ (by omega)
     rcases q t g I with j | j
     ·rw [h] at j;have:=QS j.symm;omega
     ·omega
    ·have z:t=nmE s i:=by
      rcases q t g I with j | j
      ·rw [h] at j;have:=Qr j.symm;omega
      ·omega
     subst z;refine Wp.if (λ h=>M _ (QI (.inl (d.1 (beqN.1 h)))).symm) λ h=>Wp.lt (λ _=>Wp.bd (R:=λ c=>c=s[nmE s i]) ⟨_,zAw g,rfl⟩ λ c hc=>qk_b (zKH c) (M _ ?_)) λ A=>absurd g (by omega)
     subst hc;have hl:isAt lowB s i=true:=by
      have:=zBh.1 h;cases j:isAt lowB s i with
      | true=>rfl
      | false=>exact absurd (d.2 j) this
     rw [zA g];cases hw:wrdB s[nmE s i] <;> simp [hl]
   ·have z:t=nmE s i:=by omega
    subst z;refine Wp.if (λ h=>G _ (QI (.inl (d.1 (beqN.1 h)))).symm) λ h=>Wp.lt (λ g=>absurd g (by omega)) λ _=>G _ ?_
    have hl:isAt lowB s i=true:=by
     have:=zBh.1 h;cases j:isAt lowB s i with
     | true=>rfl
     | false=>exact absurd (d.2 j) this
    rw [zBp A,hl];simp
 exact loop FUEL i (QA _) u.1 (by have:=zC (n:=65537) (by omega);omega)
end
end Go.Proofs.YtdeeimaahdgeaaaGreatDoor.spec
namespace Go.Proofs.YtdeeimaahdgeaaaGreatDoor.spec
open Go Go.Sy
variable [MX]
def BadP (s:List Nat) (x:FL) (v:AV×Heap×Vecs):Prop:=∃(y i n:Int) (l:List AV),v=outB (.int .i64 y) s i x n l
def OutP (s:List Nat) (l:List AV) (x:FL):RE (Nat×Nat×RT)->AV×Heap×Vecs->Prop
 | .ok (i,n,t),v=>v=outB (.int .i64 (Int.ofNat (l.length+t.size-1))) s (Int.ofNat i) x (Int.ofNat n) (l++t.fl l.length)
 | .error (e,f),v=>BadP s ⟨e,f,true⟩ v
section
variable {s:List Nat} {x:FL} {l:List AV}
def Res2 (s:List Nat) (l:List AV) (x:FL) (r:RE (Nat×Nat×RT)) (v:AV×Heap×Vecs):Prop:=(x.b=true->BadP s x v)/\(x.b=false->OutP s l x r v)
theorem zWs (h:x.b=true) (j:Nat):valF x s j=x:=by unfold valF;simp only [FL.qH h,ite_self]
theorem zWt (h:x.b=true) (j:Nat):numF x s j=x:=by unfold numF;simp only [FL.qH h,ite_self]
theorem zTB (h:x.b=true) (j:Nat):nmF x s j=x:=by unfold nmF;simp only [FL.qH h,ite_self]
theorem zCY (k:Int) (a b:List Nat) (m p q:Int) (i n:Int) (hl:x.b=false->l.length<=64):Wp (zo s i x.e x.f x.b n k a b m p q l) λ v=>(x.b=true->BadP s x v)/\(x.b=false->v=outB (.int .i64 (Int.ofNat l.length)) s i x n (l++[nd6 k a b m p q])):=by
 rw [zGm];refine qdI (zRF x n l k a b m p q i hl) (Wp.mk ⟨λ h=>⟨_,_,_,_,rfl⟩,λ h=>?_⟩)
 rw [if_neg (by rw [h];decide),QH]
 have:=hl h;have e:wrapx .i64 (Int.ofNat (l.length+[nd6 k a b m p q].length)-1)=Int.ofNat l.length:=zCk (i:=l.length+1) (by omega) (by omega)
 rw [e]
theorem zGa (l:List AV) (k:Int) (a b:List Nat) (n:Int):l.length+(RT.leaf k a b n).size-1=l.length:=by
 show l.length+1-1=_
 omega
variable (hs:s.length<=65536)
include hs
theorem zTC (j n:Nat) (m:Int) (k:Int) (a:List Nat) (A:j<=s.length) (hm:x.b=false->m=Int.ofNat (n+1)) (hl:x.b=false->l.length<=64):
  Wp (dD true [D.v K.s,D.hc 0 false 7,D.v K.s,D.v (K.i IntKind.i64),D.v (K.c (AV.sym 0)),D.v (K.i IntKind.i64),D.v (K.i IntKind.i64),D.v K.b,D.v (K.i IntKind.i64),D.vec 0 6] (zAp s (Int.ofNat j) x.e x.f x.b m l) λ B E u q r C t z=>zo E u q r C t k a B (Int.ofNat 0) (Int.negSucc 0) (Int.negSucc 0) z) (Res2 s l x (zKa s j n k a)):=by
 refine qdS (zXY hs x m l j A) ?_
 by_cases hb:x.b=true
 ·rw [zWs hb];refine (zCY (s:=s) (x:=x) (l:=l) k a _ _ _ _ _ m hl).mono λ v d=>⟨d.1,λ h=>?_⟩
  rw [h] at hb;cases hb
 ·have hb:x.b=false:=by simpa using hb
  have F:=zBY wrdB s (sk s j) (zAM A);unfold zKa zNO valF;by_cases h0:rn wrdB s (sk s j)=0
  ·rw [if_neg (by omega),if_pos h0,if_pos h0,FL.qt hb]
   refine (zCY (x:=⟨5,Int.ofNat (sk s j),true⟩) k a _ _ _ _ _ m (λ h=>by cases h)).mono λ v d=>⟨λ h=>(by rw [h] at hb;cases hb),λ _=>d.1 rfl⟩
  ·by_cases g:32<rn wrdB s (sk s j)
   ·rw [if_pos g,if_neg h0,if_neg h0,if_pos g,FL.qt hb];refine (zCY (x:=⟨5,Int.ofNat (sk s j+32),true⟩) k a _ _ _ _ _ m (λ h=>by cases h)).mono λ v d=>⟨λ h=>(by rw [h] at hb;cases hb),λ _=>d.1 rfl⟩
   ·rw [if_neg g,if_neg h0,if_neg h0,if_neg g];refine (zCY (x:=x) k a _ _ _ _ _ m hl).mono λ v d=>⟨λ h=>(by rw [h] at hb;cases hb),λ _=>?_⟩
    have:=d.2 hb;rw [hm hb] at this;show v=outB (.int .i64 (Int.ofNat (l.length+(RT.leaf k a _ 0).size-1))) s _ x _ _
    rw [zGa];exact this
theorem zTD (j n:Nat) (m:Int) (k:Int) (a:List Nat) (C:j<=s.length) (hm:x.b=false->m=Int.ofNat (n+1)) (hl:x.b=false->l.length<=64):
  Wp (dD true [D.v (K.i IntKind.i64),D.hc 0 false 7,D.v K.s,D.v (K.i IntKind.i64),D.v (K.c (AV.sym 0)),D.v (K.i IntKind.i64),D.v (K.i IntKind.i64),D.v K.b,D.v (K.i IntKind.i64),D.vec 0 6] (zAc s (Int.ofNat j) x.e x.f x.b m l) λ z E r t u F q A=>zo E r t u F q k a [] z (Int.negSucc 0) (Int.negSucc 0) A) (Res2 s l x (zKb s j n k a)):=by
 refine qdI (zWr hs x m l j C) ?_
 by_cases hb:x.b=true
 ·rw [zWt hb];refine (zCY (s:=s) (x:=x) (l:=l) k a _ _ _ _ _ m hl).mono λ v g=>⟨g.1,λ h=>?_⟩
  rw [h] at hb;cases hb
 ·have hb:x.b=false:=by simpa using hb
  have I:=zAM C;have B:=zTz zTA s _ (sk s j) (QA _);unfold zKb zL0 numF numR;rw [show min 12 (rn digB s (sk s j))=kdig s (sk s j) from rfl]
  by_cases d:isAt wrdB s (sk s j+kdig s (sk s j))=true
  ·rw [if_pos d,if_pos d,if_pos d,FL.qt hb];refine (zCY (x:=⟨5,Int.ofNat (sk s j+kdig s (sk s j)),true⟩) k a _ _ _ _ _ m (λ h=>by cases h)).mono λ v g=>⟨λ h=>(by rw [h] at hb;cases hb),λ _=>g.1 rfl⟩
  ·rw [if_neg d,if_neg d,if_neg d];by_cases h0:rn digB s (sk s j)=0
   ·rw [if_pos h0,if_pos h0,FL.qt hb];refine (zCY (x:=⟨5,Int.ofNat (sk s j),true⟩) k a _ _ _ _ _ m (λ h=>by cases h)).mono λ v g=>⟨λ h=>(by rw [h] at hb;cases hb),λ _=>g.1 rfl⟩
   ·rw [if_neg h0,if_neg h0];have H:rn wrdB s (sk s j)=kdig s (sk s j):=by
     have G:kdig s (sk s j)<=rn digB s (sk s j):=Nat.min_le_right _ _;by_cases h:kdig s (sk s j)<rn wrdB s (sk s j)
     ·exact absurd (zCl _ _ h) d
     ·omega
    rw [H];refine (zCY (x:=x) k a _ _ _ _ _ m hl).mono λ v g=>⟨λ h=>(by rw [h] at hb;cases hb),λ _=>?_⟩
    have:=g.2 hb;rw [hm hb] at this;show v=outB (.int .i64 (Int.ofNat (l.length+(RT.leaf k a [] _).size-1))) s _ x _ _
    rw [zGa];exact this
omit hs in
theorem zVz (j n:Nat) (m:Int) (b:Bool) (a:List Nat) (g:j<=s.length) (hs:s.length<=65536) (hm:x.b=false->m=Int.ofNat (n+1)) (hl:x.b=false->l.length<=64):
  Wp (zO b s (Int.ofNat j) x.e x.f x.b m (Int.ofNat 6) a [] (Int.ofNat 0) (Int.negSucc 0) (Int.negSucc 0) l) (Res2 s l x (if b=true then .error (5,Int.ofNat (j+1)) else .ok (j,n+1,.leaf 6 a [] 0))):=by
 rw [zGn];refine Wp.if (λ h=>?_) λ h=>?_
 ·rw [if_pos h,zc (by omega)]
  refine qdU (zFt x m l 5 _ _) ?_
  by_cases hb:x.b=true
  ·rw [FL.qH hb];exact (zCY (s:=s) (x:=x) (l:=l) _ a _ _ _ _ _ m hl).mono λ v d=>⟨d.1,λ h=>by rw [h] at hb;cases hb⟩
  ·have hb:x.b=false:=by simpa using hb
   rw [FL.qt hb];exact (zCY (x:=⟨5,Int.ofNat (j+1),true⟩) _ a _ _ _ _ _ m (λ h=>by cases h)).mono λ v d=>⟨λ h=>(by rw [h] at hb;cases hb),λ _=>d.1 rfl⟩
 ·rw [if_neg (by rw [h];decide)]
  refine (zCY (x:=x) _ a _ _ _ _ _ m hl).mono λ v d=>⟨d.1,λ hb=>?_⟩
  have:=d.2 hb;rw [hm hb] at this;show v=outB (.int .i64 (Int.ofNat (l.length+(RT.leaf 6 a [] 0).size-1))) s _ x _ _
  rw [zGa];exact this
theorem zXZ {j p q:Nat}:List.drop j (List.take (j+2) s)=[p,q]↔s[j]? = some p/\s[j+1]? = some q:=by
 constructor
 ·intro h;have h0:(List.drop j (List.take (j+2) s))[0]? = s[j]?:=by rw [List.getElem?_drop,List.getElem?_take_of_lt (by omega)];rfl
  have d:(List.drop j (List.take (j+2) s))[1]? = s[j+1]?:=by rw [List.getElem?_drop,List.getElem?_take_of_lt (by omega)]
  rw [←h0,←d,h];exact ⟨rfl,rfl⟩
 ·intro h;obtain ⟨h0,g⟩:=QD.1 h.1;obtain ⟨d,k⟩:=QD.1 h.2;rw [List.drop_take,show j+2-j=2 by omega,QZ h0,QZ d,g,k]
  rfl
def zMD (s:List Nat) (j:Nat):List Nat:=if j+2<=s.length then List.drop j (List.take (j+2) s) else []
theorem zRa {j p q:Nat}:zMD s j=[p,q]↔s[j]? = some p/\s[j+1]? = some q:=by
 unfold zMD;split
 ·exact zXZ hs
 ·rename_i h;refine ⟨λ h=>(by cases h),λ d=>?_⟩
  have:=zCg d.2;omega
omit hs in
theorem zCK {j c:Nat} (h:c≠0):(s[j]?).getD 0=c↔s[j]? = some c:=by
 cases s[j]? with
 | none=>simp;omega
 | some d=>simp
theorem zVA (j n:Nat) (m:Int) (a:List Nat) (B:j<=s.length) (hm:x.b=false->m=Int.ofNat (n+1)) (hl:x.b=false->l.length<=64):
  Wp (zP (Int.ofNat ((s[j]?).getD 0)) (zMD s j) s (Int.ofNat j) x.e x.f x.b m (Int.ofNat 6) a [] (Int.ofNat 0) (Int.negSucc 0) (Int.negSucc 0) l) (Res2 s l x (zEo s j n a)):=by
 have two:∀p q:Nat,(seqb (zMD s j) [p,q]=true->s[j]? = some p/\s[j+1]? = some q)/\(seqb (zMD s j) [p,q]=false->¬(s[j]? = some p/\s[j+1]? = some q)):=λ p q=>by
  rw [zK];exact ⟨λ h=>(zRa hs).1 (QS h),λ h t=>Qr h ((zRa hs).2 t)⟩
 have one:∀c:Nat,c≠0->((Int.ofNat ((s[j]?).getD 0)==Int.ofNat c)=true->s[j]? = some c)/\((Int.ofNat ((s[j]?).getD 0)==Int.ofNat c)=false->¬s[j]? = some c):=λ c hc=>
  ⟨λ h=>(zCK hc).1 (beqN.1 h),λ h t=>zBh.1 h ((zCK hc).2 t)⟩
 unfold zEo;rw [zGo];refine Wp.if (λ h=>?_) λ h=>?_
 ·have h:=(one 61 (by decide)).1 h
  rw [if_pos h,zc (by omega)]
  exact zTC hs (j+1) n m 2 a (zCg h) hm hl
 have z:=(one 61 (by decide)).2 h
 rw [if_neg z];have A:wrapx .i64 (Int.ofNat j+2)=Int.ofNat (j+2):=zL (by rw [qr];omega) (by rw [qr];omega)
 refine Wp.if (λ h=>?_) λ h=>?_
 ·have h:=(two 33 61).1 h;rw [if_pos h,A];exact zTC hs (j+2) n m 3 a (zCg h.2) hm hl
 rw [if_neg ((two 33 61).2 h)];refine Wp.if (λ h=>?_) λ h=>?_
 ·have h:=(two 62 61).1 h;rw [if_pos h,A];exact zTD hs (j+2) n m 4 a (zCg h.2) hm hl
 rw [if_neg ((two 62 61).2 h)];refine Wp.if (λ h=>?_) λ h=>?_
 ·have h:=(two 60 61).1 h;rw [if_pos h,A];exact zTD hs (j+2) n m 5 a (zCg h.2) hm hl
 rw [if_neg ((two 60 61).2 h)];have d:∀b:Bool,(b=true↔(s[j]? = some 33\/s[j]? = some 62\/s[j]? = some 60))->Wp (zO b s (Int.ofNat j) x.e x.f x.b m (Int.ofNat 6) a [] (Int.ofNat 0) (Int.negSucc 0) (Int.negSucc 0) l) (Res2 s l x (if s[j]? = some 33\/s[j]? = some 62\/s[j]? = some 60 then .error (5,Int.ofNat (j+1)) else .ok (j,n+1,.leaf 6 a [] 0))):=λ b hb=>by
  refine (zVz j n m b a B hs hm hl).mono λ v u=>?_
  by_cases h:s[j]? = some 33\/s[j]? = some 62\/s[j]? = some 60
  ·rw [if_pos h];rw [if_pos (hb.2 h)] at u;exact u
  ·rw [if_neg h];rw [if_neg (λ t=>h (hb.1 t))] at u;exact u
 refine Wp.if (λ h=>d true ?_) λ g=>Wp.if (λ h=>d true ?_) λ k=>d _ ?_
 ·simp [(one 33 (by decide)).1 h]
 ·simp [(one 62 (by decide)).1 h]
 ·have g:=(one 33 (by decide)).2 g
  have k:=(one 62 (by decide)).2 k
  have r:=one 60 (by decide)
  constructor
  ·intro h;exact .inr (.inr (r.1 h))
  ·intro h;rcases h with h | h | h
   ·exact absurd h g
   ·exact absurd h k
   ·cases hc:(Int.ofNat ((s[j]?).getD 0)==Int.ofNat 60) with
    | true=>rfl
    | false=>exact absurd h (r.2 hc)
theorem zX0 (i n:Nat) (m:Int) (O:i<=s.length) (hm:x.b=false->m=Int.ofNat n/\n<=64) (hl:x.b=false->l.length<=64):
  Wp (zBc s (Int.ofNat i) x.e x.f x.b m l) (Res2 s l x (zDy s i n)):=by
 rw [zHa];have E:=zVy (s:=s) O;refine qdS (zYQ hs x m l i O) (Wp.if (λ h=>Wp.mk ⟨λ hb=>?_,λ hb=>?_⟩) λ h=>?_)
 ·rw [zTB hb];exact ⟨_,_,_,_,rfl⟩
 ·unfold nmF at h;have hc:isAt lowB s i=false\/isAt wrdB s (nmE s i)=true:=by
   by_cases hc:isAt lowB s i=false\/isAt wrdB s (nmE s i)=true
   ·exact hc
   ·rw [if_neg hc,hb] at h;cases h
  unfold zDy;have H:nmF x s i=⟨5,Int.ofNat (nmE s i),true⟩:=by unfold nmF;rw [if_pos hc,FL.qt hb]
  rw [H];cases d:isAt lowB s i with
  | false=>
   rw [if_pos rfl];have:nmE s i=i:=by unfold nmE;rw [d];rfl
   rw [this];exact ⟨_,_,_,_,rfl⟩
  | true=>
   have:nmE s i=i+min 24 (rn namB s i):=by unfold nmE;rw [d];rfl
   rw [d] at hc;rw [this] at hc ⊢;rw [if_neg (by decide),if_pos (hc.resolve_left (by decide))]
   exact ⟨_,_,_,_,rfl⟩
 ·
  have hb:x.b=false:=by
   cases hx:x.b with
   | false=>rfl
   | true=>rw [zTB hx,hx] at h;cases h
  have hc:¬(isAt lowB s i=false\/isAt wrdB s (nmE s i)=true):=λ hc=>by
   unfold nmF at h;rw [if_pos hc,FL.ug] at h;cases h
  have H:nmF x s i=x:=by unfold nmF;rw [if_neg hc]
  have d:isAt lowB s i=true:=by
   cases B:isAt lowB s i with
   | true=>rfl
   | false=>exact absurd (.inl B) hc
  have M:nmE s i=i+min 24 (rn namB s i):=by unfold nmE;rw [d];rfl
  obtain ⟨rfl,U⟩:=hm hb;have S:¬isAt wrdB s (i+min 24 (rn namB s i))=true:=λ B=>hc (.inr (by rw [M];exact B))
  unfold zDy;rw [H,d,if_neg (by decide),if_neg S,←M]
  refine qdU (zOj x (Int.ofNat n) l _ _) ?_
  rw [zc (by omega)]
  have key:∀y:FL,(y=x/\n+1<=64\/y=⟨3,Int.ofNat i,true⟩/\64<n+1)->Wp (br (seqb (cutS s i (nmE s i)) [97,110,121]) (dD true [D.v (K.i IntKind.i64),D.hc 0 false 7,D.v K.s,D.v (K.i IntKind.i64),D.v (K.c (AV.sym 0)),D.v (K.i IntKind.i64),D.v (K.i IntKind.i64),D.v K.b,D.v (K.i IntKind.i64),D.vec 0 6] (zv (Int.ofNat 1) [] [] (Int.ofNat 0) (Int.negSucc 0) (Int.negSucc 0) s (Int.ofNat (nmE s i)) y.e y.f y.b (Int.ofNat (n+1)) l) λ G u g j k F q t=>some (AV.int IntKind.i64 G,[(0,HO.cells false [AV.str u,AV.int IntKind.i64 g,AV.sym 0,AV.int IntKind.i64 j,AV.int IntKind.i64 k,AV.bool F,AV.int IntKind.i64 q])],[(0,VI.vec 6 t)])) (dD true [D.v (K.i IntKind.u8),D.hc 0 false 7,D.v K.s,D.v (K.i IntKind.i64),D.v (K.c (AV.sym 0)),D.v (K.i IntKind.i64),D.v (K.i IntKind.i64),D.v K.b,D.v (K.i IntKind.i64),D.vec 0 6] (zu s (Int.ofNat (nmE s i)) y.e y.f y.b (Int.ofNat (n+1)) l) λ G u g j k F q t=>br (decide (wrapx IntKind.i64 (g+2)<=Int.ofNat (List.length u))) (gd (decide (0<=g/\g<=wrapx IntKind.i64 (g+2)/\wrapx IntKind.i64 (g+2)<=Int.ofNat (List.length u))) (zP G (List.drop (Int.toNat g) (List.take (Int.toNat (wrapx IntKind.i64 (g+2))) u)) u g j k F q (Int.ofNat 6) (cutS s i (nmE s i)) [] (Int.ofNat 0) (Int.negSucc 0) (Int.negSucc 0) t)) (zP G [] u g j k F q (Int.ofNat 6) (cutS s i (nmE s i)) [] (Int.ofNat 0) (Int.negSucc 0) (Int.negSucc 0) t))) (Res2 s l x (if 64<n+1 then .error (3,Int.ofNat i) else if cutS s i (nmE s i)=[97,110,121] then .ok (nmE s i,n+1,.leaf 1 [] [] 0) else zEo s (sk s (nmE s i)) n (cutS s i (nmE s i)))):=λ y T=>by
   have C:y.b=false->l.length<=64:=λ _=>hl hb
   have post:∀{r:RE (Nat×Nat×RT)} {v:AV×Heap×Vecs},Res2 s l y r v->Res2 s l x (if 64<n+1 then .error (3,Int.ofNat i) else r) v:=λ{r v} z=>by
    refine ⟨λ h=>(by rw [h] at hb;cases hb),λ _=>?_⟩
    rcases T with ⟨rfl,h⟩ | ⟨rfl,h⟩
    ·rw [if_neg (by omega)];exact z.2 hb
    ·rw [if_pos h];exact z.1 rfl
   refine Wp.if (λ h=>?_) λ h=>?_
   ·rw [zK] at h;rw [if_pos (QS h)];refine qdI (zRF y (Int.ofNat (n+1)) l _ [] [] _ _ _ _ C) (Wp.mk (post ⟨λ _=>⟨_,_,_,_,rfl⟩,λ I=>?_⟩))
    rw [if_neg (by rw [I];decide),QH]
    have:=hl hb;show outB (.int .i64 (wrapx .i64 (Int.ofNat (l.length+1)-1))) s _ y _ _=outB (.int .i64 (Int.ofNat (l.length+1-1))) s _ y _ _
    rw [zCk (by omega) (by omega)]
    rfl
   ·rw [zK] at h;rw [if_neg (Qr h)];refine qd8 (zKI hs y (Int.ofNat (n+1)) l (nmE s i) E.2) ?_
    have Q:=zAM E.2;have R:wrapx .i64 (Int.ofNat (sk s (nmE s i))+2)=Int.ofNat (sk s (nmE s i)+2):=zL (by rw [qr];omega) (by rw [qr];omega)
    have A:=zVA (s:=s) (x:=y) (l:=l) hs (sk s (nmE s i)) n (Int.ofNat (n+1)) (cutS s i (nmE s i)) Q (λ _=>rfl) C
    unfold pk;rw [R];refine Wp.ite (λ h=>Wp.gd ⟨QV _,Qi.2 (by omega),h⟩ ?_) λ h=>?_
    ·have h:sk s (nmE s i)+2<=s.length:=Qi.1 h;unfold zMD at A;rw [if_pos h] at A;exact A.mono λ v z=>post z
    ·have h:¬sk s (nmE s i)+2<=s.length:=λ B=>h (Qi.2 B)
     unfold zMD at A;rw [if_neg h] at A;exact A.mono λ v z=>post z
  by_cases J:64<n+1
  ·rw [if_pos (show (64:Int)<Int.ofNat (n+1) by rw [qr];omega),FL.qt hb]
   exact key ⟨3,Int.ofNat i,true⟩ (.inr ⟨rfl,J⟩)
  ·rw [if_neg (show ¬(64:Int)<Int.ofNat (n+1) by rw [qr];omega)]
   exact key x (.inl ⟨rfl,by omega⟩)
end
end Go.Proofs.YtdeeimaahdgeaaaGreatDoor.spec
namespace Go.Proofs.YtdeeimaahdgeaaaGreatDoor.spec
open Go Go.Sy
variable [MX]
theorem zSv {s:List Nat} {x:FL} {l:List AV} {i n:Int} {k:Int} {a b:List Nat} {m p q:Int} (hb:x.b=false) (hl:l.length<=64):zv k a b m p q s i x.e x.f x.b n l=some (outB (.int .i64 (Int.ofNat l.length)) s i x n (l++[nd6 k a b m p q])):=by
 rw [zRF x n l k a b m p q i (λ _=>hl),if_neg (by rw [hb];decide),QH]
 have e:wrapx .i64 (Int.ofNat (l.length+[nd6 k a b m p q].length)-1)=Int.ofNat l.length:=zCk (i:=l.length+1) (by omega) (by omega)
 rw [e]
theorem zIV {s:List Nat} {x:FL} {l:List AV} {i n:Int} {k:Int} {a b:List Nat} {m p q:Int} (hb:x.b=true):∃v,zv k a b m p q s i x.e x.f x.b n l=some (outB (.int .i64 v) s i x n l):=⟨_,by rw [zRF x n l k a b m p q i (λ h=>by rw [h] at hb;cases hb),if_pos hb]⟩
theorem zO7 {s:List Nat} {x:FL} {l:List AV} {i f:Int} {n:Nat} (h:n+1<=64):zw f s i x.e x.f x.b (Int.ofNat n) l=some (outB (.qc []) s i x (Int.ofNat (n+1)) l):=by
 rw [zOj,zc (by omega),if_neg (by rw [qr];omega)]
theorem zME {s:List Nat} {x:FL} {l:List AV} {i f:Int} {n:Nat} (hb:x.b=false) (h:64<n+1) (d:n<=1000):zw f s i x.e x.f x.b (Int.ofNat n) l=some (outB (.qc []) s i ⟨3,f,true⟩ (Int.ofNat (n+1)) l):=by
 rw [zOj,zc (by omega),if_pos (by rw [qr];omega),FL.qt hb]
theorem zVB {s:List Nat} {x:FL} {l:List AV} {i f n:Int} (hb:x.b=true):zw f s i x.e x.f x.b n l=some (outB (.qc []) s i x (wrapx .i64 (n+1)) l):=by
 rw [zOj,FL.qH hb,ite_self]
abbrev PreB (s:List Nat) (x:FL) (l:List AV) (i n:Nat) (m:Int):Prop:=i<=s.length/\(x.b=false->m=Int.ofNat n/\n<=64/\l.length<=n)
def POne (s:List Nat) (g:Nat):Prop:=∀(d:Nat) (x:FL) (l:List AV) (i n:Nat) (m:Int),3*g+1<=d->PreB s x l i n m->Wp (zAF d (Int.ofNat (32-g)) s (Int.ofNat i) x.e x.f x.b m l) (Res2 s l x (oneM s g i n))
def PAnd (s:List Nat) (g:Nat):Prop:=∀(d:Nat) (x:FL) (l:List AV) (i n:Nat) (m:Int),3*g+2<=d->PreB s x l i n m->Wp (zBj d (Int.ofNat (32-g)) s (Int.ofNat i) x.e x.f x.b m l) (Res2 s l x (andM s g i n))
def POr (s:List Nat) (g:Nat):Prop:=∀(d:Nat) (x:FL) (l:List AV) (i n:Nat) (m:Int),3*g+3<=d->PreB s x l i n m->Wp (zBC d (Int.ofNat (32-g)) s (Int.ofNat i) x.e x.f x.b m l) (Res2 s l x (orM s g i n))
theorem zPX (l:List AV) (k:Int) (t u:RT):(l++t.fl l.length)++u.fl (l++t.fl l.length).length++[nd6 k [] [] (Int.ofNat 0) (Int.ofNat (l.length+t.size-1)) (Int.ofNat ((l++t.fl l.length).length+u.size-1))]=l++(RT.two k t u).fl l.length:=by
 rw [QH,RT.fl_length,RT.fl];simp only [Qt]
theorem zOk {s:List Nat} {x:FL} {l:List AV} {i left m:Int} {d N:Nat} {deep:Int} (hb:x.b=true):Wp (zAd d (N+1) deep left s i x.e x.f x.b m l) (BadP s x):=by
 rw [zDb];exact Wp.if (λ h=>by rw [hb] at h;cases h) λ _=>Wp.mk ⟨_,_,_,_,rfl⟩
theorem zWu {s:List Nat} (hs:s.length<=65536) {g:Nat} (h1:POne s g) {d:Nat} (I:3*g+1<=d) {x:FL} (hb:x.b=false) (l:List AV):∀(N z i n:Nat) (t:RT),n<=64->65<=n+z->z<N->l.length+t.size<=n->i<=s.length →
  Wp (zAd d N (Int.ofNat (32-g)) (Int.ofNat (l.length+t.size-1)) s (Int.ofNat i) x.e x.f x.b (Int.ofNat n) (l++t.fl l.length)) (OutP s l x (zHf (oneM s g) s 38 8 z i n t)):=by
 intro N
 induction N with
 | zero=>intro z i n t _ _ h;omega
 | succ N R=>
  intro z i n t T U V hl J;obtain ⟨z,rfl⟩:∃k,z=k+1:=⟨z-1,by omega⟩
  obtain ⟨N,rfl⟩:∃k,N=k+1:=⟨N-1,by omega⟩
  have S:=zAM J;rw [zDb,zHf];refine Wp.if (λ _=>qd8 (zKI hs x (Int.ofNat n) _ i J) (Wp.if (λ h=>?_) λ h=>?_)) λ h=>by rw [hb] at h;cases h
  ·have h:s[sk s i]? = some 38:=(zCK (by decide)).1 ((beqN (y:=38)).1 h)
   rw [if_pos h,zGL];have C:=zCg h;by_cases A:64<n+1
   ·rw [if_pos A];refine qdU (zME hb A (by omega)) ?_
    rw [zc (by omega)]
    obtain ⟨v,E,j⟩:=h1 d ⟨3,Int.ofNat (sk s i),true⟩ (l++t.fl l.length) (sk s i+1) 0 (Int.ofNat (n+1)) I ⟨C,λ h=>by cases h⟩
    obtain ⟨y,D,B,H,rfl⟩:=j.1 rfl;refine qdI E ?_
    obtain ⟨w,G⟩:=zIV (s:=s) (x:=⟨3,Int.ofNat (sk s i),true⟩) (l:=H) (i:=D) (n:=B) (k:=Int.ofNat 8) (a:=[]) (b:=[]) (m:=Int.ofNat 0) (p:=Int.ofNat (l.length+t.size-1)) (q:=y) rfl;exact qdI G (zOk rfl)
   ·rw [if_neg A];refine qdU (zO7 (by omega)) ?_
    rw [zc (by omega)]
    have F:(l++t.fl l.length).length<=n+1:=by rw [QH,RT.fl_length];omega
    obtain ⟨v,E,j⟩:=h1 d x (l++t.fl l.length) (sk s i+1) (n+1) (Int.ofNat (n+1)) I ⟨C,λ _=>⟨rfl,by omega,F⟩⟩
    have j:=j.2 hb;cases hx:oneM s g (sk s i+1) (n+1) with
    | error e=>
     rw [hx] at j;obtain ⟨y,D,B,H,rfl⟩:=j;refine qdI E ?_
     obtain ⟨w,G⟩:=zIV (s:=s) (x:=⟨e.1,e.2,true⟩) (l:=H) (i:=D) (n:=B) (k:=Int.ofNat 8) (a:=[]) (b:=[]) (m:=Int.ofNat 0) (p:=Int.ofNat (l.length+t.size-1)) (q:=y) rfl;exact qdI G (zOk rfl)
    | ok r=>
     obtain ⟨D,B,u⟩:=r;rw [hx] at j;have j:v=_:=j;subst j;obtain ⟨g1,g2,g3,g4,g5⟩:=zIU s g _ _ _ _ _ (show sk s i+1<=s.length by omega) (by omega) hx
     have O:(RT.two 8 t u).size=t.size+u.size+1:=rfl;refine qdI E (qdI (zSv hb ?_) ?_)
     ·rw [QH,RT.fl_length,QH,RT.fl_length];omega
     ·have Q:(l++t.fl l.length++u.fl (l++t.fl l.length).length).length=l.length+(RT.two 8 t u).size-1:=by
       rw [QH,RT.fl_length,QH,RT.fl_length];omega
      have M:=zPX l 8 t u;rw [Q];have:=R z D B (.two 8 t u) g4 (by omega) (by omega) (by omega) g2
      rw [←M] at this;exact this
  ·have h:¬s[sk s i]? = some 38:=λ K=>(zBh (y:=38)).1 h ((zCK (by decide)).2 K)
   rw [if_neg h];exact Wp.mk rfl
theorem zWY {s:List Nat} (hs:s.length<=65536) {g:Nat} (h1:POne s g):PAnd s g:=by
 intro d x l i n m E z;obtain ⟨d,rfl⟩:∃k,d=k+1:=⟨d-1,by omega⟩
 rw [zHw];obtain ⟨v,A,j⟩:=h1 d x l i n m (by omega) z
 rw [show FUEL=1180591620717411303423+1 from zER]
 by_cases hb:x.b=true
 ·obtain ⟨y,B,t,D,rfl⟩:=j.1 hb;exact qdI A ((zOk hb).mono λ v h=>⟨λ _=>h,λ q=>by rw [q] at hb;cases hb⟩)
 ·have hb:x.b=false:=by simpa using hb
  have j:=j.2 hb;obtain ⟨G,C,F⟩:=z.2 hb;show Wp _ (Res2 s l x (zEp (oneM s g) s 38 8 i n))
  unfold zEp;cases hx:oneM s g i n with
  | error e=>
   rw [hx] at j;obtain ⟨y,B,t,D,rfl⟩:=j;exact qdI A ((zOk (x:=⟨e.1,e.2,true⟩) rfl).mono λ v h=>⟨λ q=>(by rw [q] at hb;cases hb),λ _=>h⟩)
  | ok r=>
   obtain ⟨B,t,u⟩:=r;rw [hx] at j;have j:v=_:=j;subst j;obtain ⟨g1,g2,g3,g4,g5⟩:=zIU s g _ _ _ _ _ z.1 C hx;refine qdI A ((zWu hs h1 (by omega) hb l _ 65 B t u g4 (by omega) (by omega) (by omega) g2).mono λ v h=>⟨λ q=>(by rw [q] at hb;cases hb),λ _=>h⟩)
theorem zPY {s:List Nat} {x:FL} {l:List AV} {i left m:Int} {d N:Nat} {deep:Int} (hb:x.b=true):Wp (zAq d (N+1) deep left s i x.e x.f x.b m l) (BadP s x):=by
 rw [zDw];exact Wp.if (λ h=>by rw [hb] at h;cases h) λ _=>Wp.mk ⟨_,_,_,_,rfl⟩
theorem zX1 {s:List Nat} (hs:s.length<=65536) {g:Nat} (h1:PAnd s g) {d:Nat} (I:3*g+2<=d) {x:FL} (hb:x.b=false) (l:List AV):∀(N z i n:Nat) (t:RT),n<=64->65<=n+z->z<N->l.length+t.size<=n->i<=s.length →
  Wp (zAq d N (Int.ofNat (32-g)) (Int.ofNat (l.length+t.size-1)) s (Int.ofNat i) x.e x.f x.b (Int.ofNat n) (l++t.fl l.length)) (OutP s l x (zHf (andM s g) s 124 9 z i n t)):=by
 intro N
 induction N with
 | zero=>intro z i n t _ _ h;omega
 | succ N R=>
  intro z i n t T U V hl J;obtain ⟨z,rfl⟩:∃k,z=k+1:=⟨z-1,by omega⟩
  obtain ⟨N,rfl⟩:∃k,N=k+1:=⟨N-1,by omega⟩
  have S:=zAM J;rw [zDw,zHf];refine Wp.if (λ _=>qd8 (zKI hs x (Int.ofNat n) _ i J) (Wp.if (λ h=>?_) λ h=>?_)) λ h=>by rw [hb] at h;cases h
  ·have h:s[sk s i]? = some 124:=(zCK (by decide)).1 ((beqN (y:=124)).1 h)
   rw [if_pos h,zGZ];have C:=zCg h;by_cases A:64<n+1
   ·rw [if_pos A];refine qdU (zME hb A (by omega)) ?_
    rw [zc (by omega)]
    obtain ⟨v,E,j⟩:=h1 d ⟨3,Int.ofNat (sk s i),true⟩ (l++t.fl l.length) (sk s i+1) 0 (Int.ofNat (n+1)) I ⟨C,λ h=>by cases h⟩
    obtain ⟨y,D,B,H,rfl⟩:=j.1 rfl;refine qdI E ?_
    obtain ⟨w,G⟩:=zIV (s:=s) (x:=⟨3,Int.ofNat (sk s i),true⟩) (l:=H) (i:=D) (n:=B) (k:=Int.ofNat 9) (a:=[]) (b:=[]) (m:=Int.ofNat 0) (p:=Int.ofNat (l.length+t.size-1)) (q:=y) rfl;exact qdI G (zPY rfl)
   ·rw [if_neg A];refine qdU (zO7 (by omega)) ?_
    rw [zc (by omega)]
    have F:(l++t.fl l.length).length<=n+1:=by rw [QH,RT.fl_length];omega
    obtain ⟨v,E,j⟩:=h1 d x (l++t.fl l.length) (sk s i+1) (n+1) (Int.ofNat (n+1)) I ⟨C,λ _=>⟨rfl,by omega,F⟩⟩
    have j:=j.2 hb;cases hx:andM s g (sk s i+1) (n+1) with
    | error e=>
     rw [hx] at j;obtain ⟨y,D,B,H,rfl⟩:=j;refine qdI E ?_
     obtain ⟨w,G⟩:=zIV (s:=s) (x:=⟨e.1,e.2,true⟩) (l:=H) (i:=D) (n:=B) (k:=Int.ofNat 9) (a:=[]) (b:=[]) (m:=Int.ofNat 0) (p:=Int.ofNat (l.length+t.size-1)) (q:=y) rfl;exact qdI G (zPY rfl)
    | ok r=>
     obtain ⟨D,B,u⟩:=r;rw [hx] at j;have j:v=_:=j;subst j;obtain ⟨g1,g2,g3,g4,g5⟩:=zL3 s g _ _ _ _ _ (show sk s i+1<=s.length by omega) (by omega) hx
     have O:(RT.two 9 t u).size=t.size+u.size+1:=rfl;refine qdI E (qdI (zSv hb ?_) ?_)
     ·rw [QH,RT.fl_length,QH,RT.fl_length];omega
     ·have Q:(l++t.fl l.length++u.fl (l++t.fl l.length).length).length=l.length+(RT.two 9 t u).size-1:=by
       rw [QH,RT.fl_length,QH,RT.fl_length];omega
      have M:=zPX l 9 t u;rw [Q];have:=R z D B (.two 9 t u) g4 (by omega) (by omega) (by omega) g2
      rw [←M] at this;exact this
  ·have h:¬s[sk s i]? = some 124:=λ K=>(zBh (y:=124)).1 h ((zCK (by decide)).2 K)
   rw [if_neg h];exact Wp.mk rfl
theorem or_P {s:List Nat} (hs:s.length<=65536) {g:Nat} (h1:PAnd s g):POr s g:=by
 intro d x l i n m E z;obtain ⟨d,rfl⟩:∃k,d=k+1:=⟨d-1,by omega⟩
 rw [zHV];obtain ⟨v,A,j⟩:=h1 d x l i n m (by omega) z
 rw [show FUEL=1180591620717411303423+1 from zER]
 by_cases hb:x.b=true
 ·obtain ⟨y,B,t,D,rfl⟩:=j.1 hb;exact qdI A ((zPY hb).mono λ v h=>⟨λ _=>h,λ q=>by rw [q] at hb;cases hb⟩)
 ·have hb:x.b=false:=by simpa using hb
  have j:=j.2 hb;obtain ⟨G,C,F⟩:=z.2 hb;show Wp _ (Res2 s l x (zEp (andM s g) s 124 9 i n))
  unfold zEp;cases hx:andM s g i n with
  | error e=>
   rw [hx] at j;obtain ⟨y,B,t,D,rfl⟩:=j;exact qdI A ((zPY (x:=⟨e.1,e.2,true⟩) rfl).mono λ v h=>⟨λ q=>(by rw [q] at hb;cases hb),λ _=>h⟩)
  | ok r=>
   obtain ⟨B,t,u⟩:=r;rw [hx] at j;have j:v=_:=j;subst j;obtain ⟨g1,g2,g3,g4,g5⟩:=zL3 s g _ _ _ _ _ z.1 C hx;refine qdI A ((zX1 hs h1 (by omega) hb l _ 65 B t u g4 (by omega) (by omega) (by omega) g2).mono λ v h=>⟨λ q=>(by rw [q] at hb;cases hb),λ _=>h⟩)
theorem zPZ {s:List Nat} {x:FL} {y i n:Int} {l:List AV} {d:Nat}:Wp (zA3 d y s i x.e x.f x.b n l) (BadP s x):=by
 rw [zDc];exact Wp.mk ⟨_,_,_,_,rfl⟩
theorem zP0 {s:List Nat} {x:FL} {y i n:Int} {l:List AV} {d:Nat}:Wp (zV d y false s i x.e x.f x.b n l) (BadP s x):=by
 rw [zDd];exact Wp.if (λ h=>by cases h) λ _=>zPZ
theorem zVC {s:List Nat} (hs:s.length<=65536) {x:FL} {l:List AV} (d:Nat) (hb:x.b=false) (i n:Nat) (t:RT) (z:i<=s.length):Wp (br (!x.b) (dD true [D.v (K.i IntKind.u8),D.hc 0 false 7,D.v K.s,D.v (K.i IntKind.i64),D.v (K.c (AV.sym 0)),D.v (K.i IntKind.i64),D.v (K.i IntKind.i64),D.v K.b,D.v (K.i IntKind.i64),D.vec 0 6] (zu s (Int.ofNat i) x.e x.f x.b (Int.ofNat n) (l++t.fl l.length)) λ g B k q r C j u=>zV d (Int.ofNat (l.length+t.size-1)) (g != 41) B k q r C j u) (zV d (Int.ofNat (l.length+t.size-1)) false s (Int.ofNat i) x.e x.f x.b (Int.ofNat n) (l++t.fl l.length))) (OutP s l x (zL1 s (.ok (i,n,t)))):=by
 refine Wp.if (λ _=>qd8 (zKI hs x (Int.ofNat n) _ i z) ?_) λ h=>by rw [hb] at h;cases h
 have E:=zAM z;show Wp _ (OutP s l x (if s[sk s i]? = some 41 then .ok (sk s i+1,n,t) else .error (5,Int.ofNat (sk s i))))
 rw [zDd];refine Wp.if (λ h=>?_) λ h=>?_
 ·have h:¬s[sk s i]? = some 41:=λ A=>by
   unfold pk at h;rw [A] at h;cases h
  rw [if_neg h];refine qdU (zFt x (Int.ofNat n) _ 5 _ _) ?_
  rw [FL.qt hb];exact zPZ (x:=⟨5,Int.ofNat (sk s i),true⟩)
 ·have h:s[sk s i]? = some 41:=by
   have h:(Int.ofNat (pk s i)==Int.ofNat 41)=true:=by
    have h:(!(Int.ofNat (pk s i)==Int.ofNat 41))=false:=h
    simpa using h
   exact (zCK (by decide)).1 (beqN.1 h)
  have:=zCg h;rw [if_pos h,zDc,zc (by omega)]
  exact Wp.mk rfl
theorem zSw {s:List Nat} (hs:s.length<=65536) {x:FL} {l:List AV} {i n:Nat} {m:Int} (g:PreB s x l i n m):Wp (dD true [D.v (K.i IntKind.i64),D.hc 0 false 7,D.v K.s,D.v (K.i IntKind.i64),D.v (K.c (AV.sym 0)),D.v (K.i IntKind.i64),D.v (K.i IntKind.i64),D.v K.b,D.v (K.i IntKind.i64),D.vec 0 6] (zBc s (Int.ofNat i) x.e x.f x.b m l) λ A F n6 E G z C j=>some (AV.int IntKind.i64 A,[(0,HO.cells false [AV.str F,AV.int IntKind.i64 n6,AV.sym 0,AV.int IntKind.i64 E,AV.int IntKind.i64 G,AV.bool z,AV.int IntKind.i64 C])],[(0,VI.vec 6 j)])) (Res2 s l x (zDy s i n)):=by
 obtain ⟨v,k,d⟩:=zX0 (s:=s) (x:=x) (l:=l) hs i n m g.1 (λ h=>⟨(g.2 h).1,(g.2 h).2.1⟩) λ h=>by have:=g.2 h;omega
 by_cases hb:x.b=true
 ·obtain ⟨y,t,q,H,rfl⟩:=d.1 hb;exact qdI k (Wp.mk d)
 ·have hb:x.b=false:=by simpa using hb
  cases hx:zDy s i n with
  | error e=>
   rw [hx] at d;obtain ⟨y,t,q,H,rfl⟩:=d.2 hb;exact qdI k (Wp.mk d)
  | ok r=>
   obtain ⟨t,q,u⟩:=r;rw [hx] at d;have B:v=_:=d.2 hb;subst B;exact qdI k (Wp.mk d)
theorem zZf {s:List Nat} (hs:s.length<=65536):∀g,g<=32->POne s g:=by
 intro g
 induction g with
 | zero=>
  intro _ d x l i n m W E;obtain ⟨d,rfl⟩:∃k,d=k+1:=⟨d-1,by omega⟩
  have S:=zAM E.1;rw [zD8];refine qd8 (zKI hs x m l i E.1) ?_
  have R:∀b:Bool,(b=true↔(s[sk s i]? = some 33\/s[sk s i]? = some 40))->Wp (zAe d (Int.ofNat (32-0)) (Int.ofNat (pk s i)) (Int.ofNat (sk s i)) b s (Int.ofNat (sk s i)) x.e x.f x.b m l) (Res2 s l x (oneM s 0 i n)):=λ b hb=>by
   rw [zDe,oneM];refine Wp.if (λ h=>Wp.ite (λ _=>qdU (zFt x m l 3 _ _) ?_) λ h=>absurd (by decide) h) λ h=>?_
   ·rw [if_pos (hb.1 h)];refine Wp.mk ⟨λ j=>?_,λ j=>?_⟩
    ·rw [FL.qH j];exact ⟨_,_,_,_,rfl⟩
    ·rw [FL.qt j];exact ⟨_,_,_,_,rfl⟩
   ·rw [if_neg (λ t=>by rw [hb.2 t] at h;cases h)]
    exact zSw hs ⟨S,E.2⟩
  refine Wp.if (λ h=>R _ ⟨λ _=>.inl ((zCK (by decide)).1 ((beqN (y:=33)).1 h)),λ _=>rfl⟩) λ h=>R _ ⟨λ t=>.inr ((zCK (by decide)).1 ((beqN (y:=40)).1 t)),λ t=>?_⟩
  rcases t with t | t
  ·exact absurd ((zCK (by decide)).2 t) ((zBh (y:=33)).1 h)
  ·exact (beqN (y:=40)).2 ((zCK (by decide)).2 t)
 | succ g O=>
  intro hg d x l i n m W E;have O:=O (by omega)
  have U:=or_P hs (zWY hs O);obtain ⟨d,rfl⟩:∃k,d=k+1:=⟨d-1,by omega⟩
  have S:=zAM E.1;have deep:wrapx .i64 (Int.ofNat (32-(g+1))+1)=Int.ofNat (32-g):=by rw [zc (by omega),show 32-(g+1)+1=32-g by omega]
  have J:¬(Int.ofNat (32-(g+1))>=32):=by rw [qr];omega
  have I:(Int.ofNat (pk s i)==33)=true↔s[sk s i]? = some 33:=(beqN (y:=33)).trans (zCK (by decide))
  have c40:(Int.ofNat (pk s i)==40)=true↔s[sk s i]? = some 40:=(beqN (y:=40)).trans (zCK (by decide))
  rw [zD8];refine qd8 (zKI hs x m l i E.1) ?_
  have R:∀b:Bool,(b=true↔(s[sk s i]? = some 33\/s[sk s i]? = some 40))->Wp (zAe d (Int.ofNat (32-(g+1))) (Int.ofNat (pk s i)) (Int.ofNat (sk s i)) b s (Int.ofNat (sk s i)) x.e x.f x.b m l) (Res2 s l x (oneM s (g+1) i n)):=λ b hb=>by
   rw [zDe,oneM];refine Wp.if (λ T=>Wp.ite (λ h=>absurd h J) λ _=>Wp.if (λ h=>?_) λ h=>?_) λ G=>?_
   ·have A:=I.1 h;have C:=zCg A;rw [if_pos A,deep];by_cases j:x.b=true
    ·refine qdU (zVB j) ?_
     rw [zc (by omega)]
     obtain ⟨v,F,z⟩:=O d x l (sk s i+1) 0 (wrapx .i64 (m+1)) (by omega) ⟨C,λ h=>by rw [h] at j;cases j⟩
     obtain ⟨y,D,B,K,rfl⟩:=z.1 j;obtain ⟨w,Q⟩:=zIV (s:=s) (x:=x) (l:=K) (i:=D) (n:=B) (k:=Int.ofNat 7) (a:=[]) (b:=[]) (m:=Int.ofNat 0) (p:=y) (q:=Int.negSucc 0) j;exact qdI F (qdI Q (Wp.mk ⟨λ _=>⟨_,_,_,_,rfl⟩,λ h=>by rw [h] at j;cases j⟩))
    ·have j:x.b=false:=by simpa using j
     obtain ⟨rfl,V,X⟩:=E.2 j;by_cases M:64<n+1
     ·rw [if_pos M];refine qdU (zME j M (by omega)) ?_
      rw [zc (by omega)]
      obtain ⟨v,F,z⟩:=O d ⟨3,Int.ofNat (sk s i),true⟩ l (sk s i+1) 0 (Int.ofNat (n+1)) (by omega) ⟨C,λ h=>by cases h⟩
      obtain ⟨y,D,B,K,rfl⟩:=z.1 rfl;obtain ⟨w,Q⟩:=zIV (s:=s) (x:=⟨3,Int.ofNat (sk s i),true⟩) (l:=K) (i:=D) (n:=B) (k:=Int.ofNat 7) (a:=[]) (b:=[]) (m:=Int.ofNat 0) (p:=y) (q:=Int.negSucc 0) rfl;exact qdI F (qdI Q (Wp.mk ⟨λ h=>(by rw [h] at j;cases j),λ _=>⟨_,_,_,_,rfl⟩⟩))
     ·rw [if_neg M];refine qdU (zO7 (by omega)) ?_
      rw [zc (by omega)]
      obtain ⟨v,F,z⟩:=O d x l (sk s i+1) (n+1) (Int.ofNat (n+1)) (by omega) ⟨C,λ _=>⟨rfl,by omega,by omega⟩⟩
      have z:=z.2 j;cases hy:oneM s g (sk s i+1) (n+1) with
      | error e=>
       rw [hy] at z;obtain ⟨y,D,B,K,rfl⟩:=z;obtain ⟨w,Q⟩:=zIV (s:=s) (x:=⟨e.1,e.2,true⟩) (l:=K) (i:=D) (n:=B) (k:=Int.ofNat 7) (a:=[]) (b:=[]) (m:=Int.ofNat 0) (p:=y) (q:=Int.negSucc 0) rfl;exact qdI F (qdI Q (Wp.mk ⟨λ h=>(by rw [h] at j;cases j),λ _=>⟨_,_,_,_,rfl⟩⟩))
      | ok r=>
       obtain ⟨D,B,u⟩:=r;rw [hy] at z;have z:v=_:=z;subst z;obtain ⟨g1,g2,g3,g4,g5⟩:=zIU s g _ _ _ _ _ (show sk s i+1<=s.length by omega) (by omega) hy
       refine qdI F (qdI (zSv j (by rw [QH,RT.fl_length];omega)) (Wp.mk ⟨λ h=>(by rw [h] at j;cases j),λ _=>?_⟩))
       have e1:l++u.fl l.length++[nd6 (Int.ofNat 7) [] [] (Int.ofNat 0) (Int.ofNat (l.length+u.size-1)) (Int.negSucc 0)]=l++(RT.not u).fl l.length:=by rw [RT.fl,Qt];rfl
       have Y:(l++u.fl l.length).length=l.length+(RT.not u).size-1:=by
        rw [QH,RT.fl_length];show _=l.length+(u.size+1)-1
        omega
       show outB (.int .i64 (Int.ofNat (l++u.fl l.length).length)) s (Int.ofNat D) x (Int.ofNat B) (l++u.fl l.length++[nd6 (Int.ofNat 7) [] [] (Int.ofNat 0) (Int.ofNat (l.length+u.size-1)) (Int.negSucc 0)])=_
       rw [e1,Y]
   ·have A:¬s[sk s i]? = some 33:=λ t=>by rw [I.2 t] at h;cases h
    have H:s[sk s i]? = some 40:=(hb.1 T).resolve_left A;have C:=zCg H;rw [if_neg A,if_pos H,deep,zc (by omega)]
    obtain ⟨v,F,z⟩:=U d x l (sk s i+1) n m (by omega) ⟨C,E.2⟩
    by_cases j:x.b=true
    ·obtain ⟨y,D,B,K,rfl⟩:=z.1 j;refine qdI F (Wp.if (λ h=>by rw [j] at h;cases h) λ _=>zP0.mono λ v h=>⟨λ _=>h,λ h=>by rw [h] at j;cases j⟩)
    ·have j:x.b=false:=by simpa using j
     have z:=z.2 j;obtain ⟨rfl,V,X⟩:=E.2 j;cases hy:orM s g (sk s i+1) n with
     | error e=>
      rw [hy] at z;obtain ⟨y,D,B,K,rfl⟩:=z;refine qdI F (Wp.if (λ h=>by cases h) λ _=>(zP0 (x:=⟨e.1,e.2,true⟩)).mono λ v h=>⟨λ h=>(by rw [h] at j;cases j),λ _=>?_⟩)
      show OutP s l x (zL1 s (orM s g (sk s i+1) n)) v
      rw [hy];exact h
     | ok r=>
      obtain ⟨D,B,u⟩:=r;rw [hy] at z;have z:v=_:=z;subst z;obtain ⟨g1,g2,_⟩:=zNQ s g _ _ _ _ _ (show sk s i+1<=s.length by omega) V hy
      refine qdI F ((zVC hs d j D B u g2).mono λ v h=>⟨λ h=>(by rw [h] at j;cases j),λ _=>?_⟩)
      show OutP s l x (zL1 s (orM s g (sk s i+1) n)) v
      rw [hy];exact h
   ·have A:¬s[sk s i]? = some 33:=λ t=>by rw [hb.2 (.inl t)] at G;cases G
    have H:¬s[sk s i]? = some 40:=λ t=>by rw [hb.2 (.inr t)] at G;cases G
    rw [if_neg A,if_neg H];exact zSw hs ⟨S,E.2⟩
  refine Wp.if (λ h=>R _ ⟨λ _=>.inl (I.1 h),λ _=>rfl⟩) λ h=>R _ ⟨λ t=>.inr (c40.1 t),λ t=>?_⟩
  rcases t with t | t
  ·rw [I.2 t] at h;cases h
  ·exact c40.2 t
theorem zZg {s:List Nat} (hs:s.length<=65536):POr s 32:=or_P hs (zWY hs (zZf hs 32 (QA _)))
def dec (n:Nat):List Nat:=(Lib.decDigits n).map UInt8.toNat
theorem zVD (n:Nat):dec n=if n<10 then [48+n] else dec (n / 10)++[48+n % 10]:=by
 unfold dec;rw [Lib.decDigits];by_cases h:n<10
 ·rw [dif_pos h,if_pos h];simp only [Qd,List.map_nil,zMB h]
 ·rw [dif_neg h,if_neg h,ZA];simp only [Qd,List.map_nil,zMB (Nat.mod_lt n (by decide:0<10))]
theorem zWv (n:Nat):decI (n:Int)=dec n:=by
 unfold decI Lib.itoa dec;rw [if_neg (by omega),Int.toNat_natCast]
theorem zTE (n:Nat) (h:n<=9223372036854775807):(dec n).length<=21:=by
 have:=Lib.itoa_length_le (n:Int) (by omega) (by omega)
 unfold Lib.itoa at this;rw [if_neg (by omega),Int.toNat_natCast] at this
 unfold dec;rw [QO];exact this
theorem zSx (n:Int) (h0:-9223372036854775808<=n) (h1:n<=9223372036854775807):(decI n).length<=21:=by
 unfold decI;rw [QO];exact Lib.itoa_length_le n h0 h1
theorem zWw (n:Int) (h0:-9223372036854775808<=n) (h1:n<=9223372036854775807):zFO n (Int.ofNat 10)=some (.str (decI n)):=by
 show (match ((Int.ofNat 10==10)&&decide (-9223372036854775808<=n/\n<=9223372036854775807)) with | true=>some (AV.str ((Lib.itoa n).map UInt8.toNat)) | false=>none)=_
 rw [QI (⟨h0,h1⟩:-9223372036854775808<=n/\n<=9223372036854775807)];rfl
theorem zSy (k:Nat) (h:k<10):zBg (chunks 1 1 (qk [AV.int IntKind.u8 (Int.ofNat 0)] 0 (AV.cells (AV.int IntKind.u8 (wrapx IntKind.u8 (wrapx IntKind.i64 (48+(k:Int))))))))=some [48+k]:=by
 match k,h with
 | 0,_ | 1,_ | 2,_ | 3,_ | 4,_ | 5,_ | 6,_ | 7,_ | 8,_ | 9,_=>rfl
theorem zUk (n:Nat) (t:n<=9223372036854775807):∀d:Nat,n<d->zBd d (n:Int)=some (.str (dec n)):=by
 induction n using Nat.strongRecOn with
 | ind n j=>
  intro d r;obtain ⟨d,rfl⟩:∃k,d=k+1:=⟨d-1,by omega⟩
  refine zi ?_
  rw [zI1];refine Wp.ite (λ h=>?_) λ h=>?_
  ·have h:n<10:=by omega
   rw [zSy n h,zVD,if_pos h];exact Wp.mk rfl
  ·have h:¬n<10:=by omega
   have g:wrapx .i64 (Int.tdiv (n:Int) 10)=((n / 10:Nat):Int):=by
    rw [show Int.tdiv (n:Int) 10=((n / 10:Nat):Int) from rfl,zL (by omega) (by omega)]
   have q:Int.tmod (n:Int) 10=((n % 10:Nat):Int):=rfl;rw [g,q];refine qk_s (j (n / 10) (by omega) (by omega) d (by omega)) ?_
   rw [zSy (n % 10) (Nat.mod_lt n (by decide)),zVD n,if_neg h]
   have:=zTE (n / 10) (by omega)
   refine Wp.gd ?_ (Wp.mk rfl)
   show (dec (n / 10)).length+1<=ze
   unfold ze;omega
def RT.bd (M:Nat):RT->Prop
 | .leaf k a b n=>a.length+b.length<=M/\-9223372036854775808<=n/\n<=9223372036854775807
 | .not t=>t.bd M
 | .two k t u=>t.bd M/\u.bd M
def RT.pos:RT->Prop
 | .leaf k a b n=>0<=n
 | .not t=>t.pos
 | .two k t u=>t.pos/\u.pos
theorem RT.wf.bd {t:RT} (h:t.wf):t.bd 56/\t.pos:=by
 induction t with
 | leaf k a b n=>
  rcases h with ⟨_,rfl,rfl,rfl⟩ | ⟨q,_,⟨_,j,rfl⟩ | ⟨_,rfl,j,z⟩ | ⟨_,rfl,rfl⟩⟩
  ·exact ⟨⟨by decide,by omega,by omega⟩,Int.le_refl _⟩
  ·exact ⟨⟨by have:=q.1;have:=j.2.1;omega,by omega,by omega⟩,Int.le_refl _⟩
  ·exact ⟨⟨by have:=q.1;simp;omega,by omega,by omega⟩,j⟩
  ·exact ⟨⟨by have:=q.1;simp;omega,by omega,by omega⟩,Int.le_refl _⟩
 | not t r=>exact r h
 | two k t u d g=>exact ⟨⟨(d h.2.1).1,(g h.2.2).1⟩,(d h.2.1).2,(g h.2.2).2⟩
theorem zB5 (g m:Int) (s:List Nat):(parT g m s).length<=s.length+2:=by
 unfold parT;split
 ·simp only [QH,QT,Qj];omega
 ·omega
theorem zVE {k:Int} {a b:List Nat} {n:Int} {M:Nat} (h:a.length+b.length<=M) (h0:-9223372036854775808<=n) (h1:n<=9223372036854775807):(zJb k a b n).length<=M+24:=by
 have:=zSx n h0 h1;unfold zJb
 repeat' split
 all_goals try simp only [QH,QT,Qj]
 all_goals omega
theorem zFg {M:Nat}:∀{t:RT},t.bd M->t.told.length<=t.size*(M+40)
 | .leaf k a b n,h=>by
  have:=zVE (k:=k) h.1 h.2.1 h.2.2;show (zJb k a b n).length<=1*(M+40)
  omega
 | .not t,h=>by
  have:=zFg (t:=t) h;have:=zB5 t.tg 2 t.told;show ([33]++parT t.tg 2 t.told).length<=(t.size+1)*(M+40)
  rw [Nat.add_mul];simp only [QH,QT,Qj];omega
 | .two k t u,h=>by
  have A:=zFg (t:=t) h.1;have r:=zFg (t:=u) h.2;have e:(t.size+u.size+1)*(M+40)=t.size*(M+40)+u.size*(M+40)+(M+40):=by rw [Nat.add_mul,Nat.add_mul,Nat.one_mul]
  have j:=zB5 t.tg 1 t.told;have z:=zB5 u.tg 2 u.told;have g:=zB5 t.tg 0 t.told;have q:=zB5 u.tg 1 u.told;show (RT.two k t u).told.length<=(t.size+u.size+1)*(M+40)
  rw [e,RT.told];by_cases d:k=8
  ·rw [if_pos d];simp only [QH,QT,Qj];omega
  ·rw [if_neg d];simp only [QH,QT,Qj];omega
def Seg (es:List AV) (t:RT) (o:Nat):Prop:=∀j,j<t.size->es[o+j]? = (t.fl o)[j]?
theorem Seg.whole (t:RT):Seg (t.fl 0) t 0:=λ j _=>by rw [QR]
theorem Seg.leaf {es:List AV} {o:Nat} {k:Int} {a b:List Nat} {n:Int} (h:Seg es (.leaf k a b n) o):es[o]? = some (nd6 k a b n (Int.negSucc 0) (Int.negSucc 0)):=h 0 Nat.one_pos
theorem Seg.not {es:List AV} {o:Nat} {t:RT} (h:Seg es (.not t) o):Seg es t o/\es[o+t.size]? = some (nd6 7 [] [] (Int.ofNat 0) (Int.ofNat (o+t.size-1)) (Int.negSucc 0)):=by
 have d:(RT.not t).size=t.size+1:=rfl;refine ⟨λ j g=>?_,?_⟩
 ·rw [h j (by omega),RT.fl,Qx (by rw [RT.fl_length];omega)]
 ·rw [h t.size (by omega),RT.fl,List.getElem?_append_right (by rw [RT.fl_length];omega),RT.fl_length,Nat.sub_self]
  rfl
theorem Seg.two {es:List AV} {o:Nat} {k:Int} {t u:RT} (h:Seg es (.two k t u) o):Seg es t o/\Seg es u (o+t.size)/\es[o+t.size+u.size]? = some (nd6 k [] [] (Int.ofNat 0) (Int.ofNat (o+t.size-1)) (Int.ofNat (o+t.size+u.size-1))):=by
 have q:(RT.two k t u).size=t.size+u.size+1:=rfl;refine ⟨λ j g=>?_,λ j g=>?_,?_⟩
 ·rw [h j (by omega),RT.fl,Qx (by rw [QH,RT.fl_length];omega),Qx (by rw [RT.fl_length];omega)]
 ·rw [show o+t.size+j=o+(t.size+j) by omega,h (t.size+j) (by omega),RT.fl,Qx (by rw [QH,RT.fl_length,RT.fl_length];omega),List.getElem?_append_right (by rw [RT.fl_length];omega),RT.fl_length]
  congr 1;omega
 ·have d:=h (t.size+u.size) (by omega)
  rw [←Nat.add_assoc] at d;rw [d,RT.fl,List.getElem?_append_right (by rw [QH,RT.fl_length,RT.fl_length];omega),QH,RT.fl_length,RT.fl_length,Nat.sub_self]
  rfl
theorem zVF (k:Int) (a b:List Nat) (n l r:Int):zD1 k a b n l r=some (.int .i64 (if k=9 then 0 else if k=8 then 1 else 2)):=by
 refine zi ?_
 rw [zJt];refine Wp.if (λ h=>Wp.mk ?_) λ h=>Wp.if (λ d=>Wp.mk ?_) λ d=>Wp.mk ?_
 ·rw [if_pos (by simpa using h)];rfl
 ·rw [if_neg (by simpa using h),if_pos (by simpa using d)];rfl
 ·rw [if_neg (by simpa using h),if_neg (by simpa using d)];rfl
theorem zLo {d:Nat} {m k:Int} {s a b:List Nat} {n l r:Int} {g:Int} (j:(if k=9 then (0:Int) else if k=8 then 1 else 2)=g) (hs:s.length<=9000000000000000000):zn d m s k a b n l r=some (.str (parT g m s)):=by
 refine zi ?_
 rw [zID];refine qk_i (zVF k a b n l r) ?_
 rw [j];have m0:ze=9223372036854775807:=rfl;unfold parT;refine Wp.ite (λ h=>Wp.gd ?_ (Wp.gd ?_ (Wp.mk ?_))) λ h=>Wp.mk ?_
 ·simp only [QT,Qj];omega
 ·simp only [QH,QT,Qj];omega
 ·rw [if_pos h]
 ·rw [if_neg h]
def RT.kd:RT->Prop
 | .leaf k a b n=>1<=k/\k<=6
 | .not t=>t.kd
 | .two k t u=>(k=8\/k=9)/\t.kd/\u.kd
theorem RT.wf.kd {t:RT} (h:t.wf):t.kd:=by
 induction t with
 | leaf k a b n=>
  rcases h with ⟨rfl,_⟩ | ⟨_,_,⟨rfl | rfl,_⟩ | ⟨rfl | rfl,_⟩ | ⟨rfl,_⟩⟩ <;> exact ⟨by decide,by decide⟩
 | not t j=>exact j h
 | two k t u d g=>exact ⟨h.1,d h.2.1,g h.2.2⟩
theorem zC7 {es:List AV} {j:Nat} {k n l r:Int} {a b:List Nat} (h:es[j]? = some (nd6 k a b n l r)) {β:Type} {P:β->Prop} {wk:Bool} {f:Int->List Nat->List Nat->Int->Int->Int->Option β} (p:Wp (f k a b n l r) P):Wp (dK wk [K.agg 6,K.i IntKind.i64,K.s,K.s,K.i IntKind.i64,K.i IntKind.i64,K.i IntKind.i64] (ixN es (Int.ofNat j)) f) P:=zEG (zLY.trans h) p
theorem zSz {es:List AV} {M:Nat} (hM:M<=5000000):∀(t:RT) (o d:Nat) (m:Int),t.size<=d->t.size<=1000->Seg es t o->t.bd M->t.pos->t.kd->zR d es (Int.ofNat (o+t.size-1)) m=some (.str (parT t.tg m t.told)):=by
 have m0:ze=9223372036854775807:=rfl;intro t
 induction t with
 | leaf k a b n=>
  intro o d m S T hs hb I A;have q:(RT.leaf k a b n).size=1:=rfl;obtain ⟨d,rfl⟩:∃e,d=e+1:=⟨d-1,by omega⟩
  refine zi ?_
  rw [zDq,q,show o+1-1=o by omega]
  refine zC7 hs.leaf ?_
  have C:1<=k:=A.1;have aa:k<=6:=A.2;have R:0<=n:=I;obtain ⟨D,rfl⟩:=Int.eq_ofNat_of_zero_le R;obtain ⟨z,r,ad⟩:=hb;have B:=zUk D (by omega) FUEL (zC (by omega))
  have ab:=zTE D (by omega)
  have W:(RT.leaf k a b (D:Int)).tg=2:=rfl;have j:∀w:List Nat,w=zJb k a b D->w.length<=9000000000000000000->Wp (zn d m w k a b (D:Int) (Int.negSucc 0) (Int.negSucc 0)) λ v=>v=.str (parT (RT.leaf k a b (D:Int)).tg m (RT.leaf k a b (D:Int)).told):=λ w hw hl=>by
   have V:(if k=9 then (0:Int) else if k=8 then 1 else 2)=2:=by rw [if_neg (by omega),if_neg (by omega)]
   refine ⟨_,zLo V hl,?_⟩
   rw [hw];rfl
  unfold zJb at j;refine Wp.if (λ h=>j _ ?_ (by simp)) λ h1=>Wp.if (λ h=>Wp.gd ?_ (Wp.gd ?_ (j _ ?_ ?_))) λ h2=>Wp.if (λ h=>Wp.gd ?_ (Wp.gd ?_ (j _ ?_ ?_))) λ h3=>Wp.if (λ h=>Wp.gd ?_ (qk_s B (Wp.gd ?_ (j _ ?_ ?_)))) λ h4=>Wp.if (λ h=>Wp.gd ?_ (qk_s B (Wp.gd ?_ (j _ ?_ ?_)))) λ h5=>Wp.if (λ h=>j _ ?_ ?_) λ h6=>?_
  all_goals simp only [beq_iff_eq,beq_eq_false_iff_ne,ne_eq] at *
  all_goals first
   | (simp only [QH,QT,Qj];omega)
   | (subst h;simp [zWv];done)
   | omega
 | not t ih=>
  intro o d m S T hs hb I A;have q:(RT.not t).size=t.size+1:=rfl;have:=t.size_pos;obtain ⟨d,rfl⟩:∃e,d=e+1:=⟨d-1,by omega⟩
  refine zi ?_
  rw [zDq,q,show o+(t.size+1)-1=o+t.size by omega]
  obtain ⟨O,K⟩:=hs.not;refine zC7 K ?_
  have hb:t.bd M:=hb;have hl:=zFg hb;have Q:=zB5 t.tg 2 t.told;have U:t.size*(M+40)<=1000*5000040:=Nat.mul_le_mul (by omega) (by omega)
  refine Wp.if (λ h=>by cases h) λ _=>Wp.if (λ h=>by cases h) λ _=>Wp.if (λ h=>by cases h) λ _=>Wp.if (λ h=>by cases h) λ _=>Wp.if (λ h=>by cases h) λ _=>Wp.if (λ h=>by cases h) λ _=>Wp.if (λ _=>?_) λ h=>by cases h
  refine qk_s (ih o d 2 (by omega) (by omega) O hb I A) (Wp.gd ?_ ⟨_,zLo (g:=2) rfl ?_,rfl⟩)
  ·simp only [QT,Qj];omega
  ·simp only [QH,QT,Qj];omega
 | two k t u J G=>
  intro o d m S T hs hb I A;have q:(RT.two k t u).size=t.size+u.size+1:=rfl;have:=t.size_pos;have:=u.size_pos;obtain ⟨d,rfl⟩:∃e,d=e+1:=⟨d-1,by omega⟩
  refine zi ?_
  rw [zDq,q,show o+(t.size+u.size+1)-1=o+t.size+u.size by omega]
  obtain ⟨O,K,s3⟩:=hs.two;refine zC7 s3 ?_
  obtain ⟨z,r⟩:=hb;obtain ⟨E,H⟩:=I;obtain ⟨A,C,F⟩:=A;have ac:=zFg z;have Q:=zFg r;have X:t.size*(M+40)<=1000*5000040:=Nat.mul_le_mul (by omega) (by omega)
  have Y:u.size*(M+40)<=1000*5000040:=Nat.mul_le_mul (by omega) (by omega)
  have p1:=zB5 t.tg 1 t.told;have p2:=zB5 u.tg 2 u.told;have p3:=zB5 t.tg 0 t.told;have p4:=zB5 u.tg 1 u.told;rcases A with rfl | rfl
  ·refine Wp.if (λ h=>by cases h) λ _=>Wp.if (λ h=>by cases h) λ _=>Wp.if (λ h=>by cases h) λ _=>Wp.if (λ h=>by cases h) λ _=>Wp.if (λ h=>by cases h) λ _=>Wp.if (λ h=>by cases h) λ _=>Wp.if (λ h=>by cases h) λ _=>Wp.if (λ _=>?_) λ h=>by cases h
   refine qk_s (J o d 1 (by omega) (by omega) O z E C) (Wp.gd ?_ (qk_s (G (o+t.size) d 2 (by omega) (by omega) K r H F) (Wp.gd ?_ ⟨_,zLo (g:=1) rfl ?_,rfl⟩)))
   all_goals simp only [QH,QT,Qj]
   all_goals omega
  ·refine Wp.if (λ h=>by cases h) λ _=>Wp.if (λ h=>by cases h) λ _=>Wp.if (λ h=>by cases h) λ _=>Wp.if (λ h=>by cases h) λ _=>Wp.if (λ h=>by cases h) λ _=>Wp.if (λ h=>by cases h) λ _=>Wp.if (λ h=>by cases h) λ _=>Wp.if (λ h=>by cases h) λ _=>Wp.if (λ _=>?_) λ h=>by cases h
   refine qk_s (J o d 0 (by omega) (by omega) O z E C) (Wp.gd ?_ (qk_s (G (o+t.size) d 1 (by omega) (by omega) K r H F) (Wp.gd ?_ ⟨_,zLo (g:=0) rfl ?_,rfl⟩)))
   all_goals simp only [QH,QT,Qj]
   all_goals omega
noncomputable def parR (r:RE RT):AV:=match r with
 | .ok t=>.qc [.agg [.ql 6 (t.fl 0)],.agg [.int .i64 (Int.ofNat 0),.int .i64 (Int.ofNat 0)]]
 | .error (e,f)=>.qc [.agg [.qa],.agg [.int .i64 e,.int .i64 f]]
theorem zSA {s:List Nat} {x:FL} {i n p q:Int} {l:List AV}:zAU s i x.e x.f x.b n p q l=some (if x.b=true then .qc [.agg [.qa],.agg [.int .i64 x.e,.int .i64 x.f]] else .qc [.agg [.ql 6 l],.agg [.int .i64 (Int.ofNat 0),.int .i64 (Int.ofNat 0)]]):=by
 refine zi ?_
 rw [zIp];refine Wp.if (λ h=>Wp.mk ?_) λ h=>Wp.mk ?_
 ·rw [if_pos h]
 ·rw [if_neg (by rw [h];decide)]
theorem zTF {s:List Nat} {x:FL} {i n p q:Int} {l:List AV} (hb:x.b=true):zBN s i x.e x.f x.b n p q l=some (.qc [.agg [.qa],.agg [.int .i64 x.e,.int .i64 x.f]]):=by
 refine zi ?_
 rw [zEy];refine Wp.if (λ h=>by rw [hb] at h;cases h) λ _=>?_
 rw [zSA,if_pos hb];exact Wp.mk rfl
theorem zRb (s:List Nat):zCp s=some (parR (zFs s)):=by
 refine zi ?_
 rw [zJu];unfold zFs;refine Wp.ite (λ h=>Wp.mk ?_) λ h=>?_
 ·rw [if_pos (by rw [qr] at h;omega)];rfl
 have hs:s.length<=1024:=by rw [qr] at h;omega
 rw [if_neg (by omega)]
 obtain ⟨v,z,j⟩:=zZg (s:=s) (by omega) FUEL ⟨0,0,false⟩ [] 0 0 0 (Qn (zC (by omega))) ⟨QP _,λ _=>⟨rfl,by omega,QA _⟩⟩
 have j:=j.2 rfl;cases hx:orM s 32 0 0 with
 | error e=>
  rw [hx] at j;obtain ⟨y,E,B,D,rfl⟩:=j;refine qdI z (Wp.if (λ h=>by cases h) λ _=>Wp.if (λ h=>by cases h) λ _=>?_)
  rw [zCr];refine Wp.if (λ h=>by cases h) λ _=>⟨_,zTF (x:=⟨e.1,e.2,true⟩) rfl,rfl⟩
 | ok r=>
  obtain ⟨i,n,t⟩:=r;rw [hx] at j;have j:v=_:=j;subst j;obtain ⟨g1,g2,g3,g4,g5⟩:=zNQ s 32 _ _ _ _ _ (QP _) (by omega) hx
  have C:=zAM g2;have k:=t.size_pos;refine qdI z (Wp.if (λ _=>qd8 (zKI (by omega) ⟨0,0,false⟩ _ _ i g2) ?_) λ h=>by cases h)
  have ok:s.length<=sk s i->Wp (zD false s (Int.ofNat (sk s i)) 0 0 false (Int.ofNat n) (Int.ofNat 0) (Int.ofNat 0) ([]++t.fl ([]:List AV).length)) λ v=>v=parR (if sk s i<s.length then .error (5,Int.ofNat (sk s i)) else if 1024<t.told.length then .error (3,Int.negSucc 0) else .ok t):=λ A=>by
   rw [zCr,if_neg (by omega)]
   refine Wp.if (λ h=>by cases h) λ _=>?_
   rw [zEy];refine Wp.if (λ _=>?_) λ h=>by cases h
   have q:([]++t.fl ([]:List AV).length:List AV).length=t.size:=by rw [List.nil_append,RT.fl_length]
   have g:=zSz (es:=[]++t.fl ([]:List AV).length) (M:=56) (by decide) t 0 FUEL 0 (Qn (zC (by omega))) (by omega) (Seg.whole t) g5.bd.1 g5.bd.2 g5.kd
   have u:parT t.tg 0 t.told=t.told:=by
    unfold parT;have:¬t.tg<0:=by
     unfold RT.tg;split
     ·repeat' split
      all_goals decide
     ·decide
    rw [if_neg this]
   rw [u,QR] at g;rw [q,zCk k (by omega)]
   refine qk_s g (Wp.ite (λ h=>qdU (zFt ⟨0,0,false⟩ _ _ 3 _ _) ?_) λ h=>?_)
   ·rw [if_pos (by rw [qr] at h;omega)]
    rw [FL.qt rfl];rw [zSA (x:=⟨3,Int.negSucc 0,true⟩)];exact Wp.mk rfl
   ·rw [if_neg (by rw [qr] at h;omega)]
    rw [zSA (x:=⟨0,0,false⟩)];exact Wp.mk rfl
  have bad:sk s i<s.length->Wp (zD true s (Int.ofNat (sk s i)) 0 0 false (Int.ofNat n) (Int.ofNat 0) (Int.ofNat 0) ([]++t.fl ([]:List AV).length)) λ v=>v=parR (if sk s i<s.length then .error (5,Int.ofNat (sk s i)) else if 1024<t.told.length then .error (3,Int.negSucc 0) else .ok t):=λ d=>by
   rw [zCr,if_pos d];refine Wp.if (λ _=>qdU (zFt ⟨0,0,false⟩ _ _ 5 _ _) ?_) λ h=>by cases h
   rw [FL.qt rfl];exact ⟨_,zTF (x:=⟨5,Int.ofNat (sk s i),true⟩) rfl,rfl⟩
  have tail:Wp (zD (decide (Int.ofNat (sk s i)<Int.ofNat s.length)) s (Int.ofNat (sk s i)) 0 0 false (Int.ofNat n) (Int.ofNat 0) (Int.ofNat 0) ([]++t.fl ([]:List AV).length)) λ v=>v=parR (if sk s i<s.length then .error (5,Int.ofNat (sk s i)) else if 1024<t.told.length then .error (3,Int.negSucc 0) else .ok t):=by
   by_cases d:sk s i<s.length
   ·rw [QI (show Int.ofNat (sk s i)<Int.ofNat s.length from Int.ofNat_lt.2 d)];exact bad d
   ·rw [QG (show ¬Int.ofNat (sk s i)<Int.ofNat s.length from λ h=>d (Int.ofNat_lt.1 h))];exact ok (by omega)
  refine Wp.if (λ h=>bad ?_) λ _=>Wp.if (λ _=>tail) λ h=>by cases h
  by_cases d:sk s i<s.length
  ·exact d
  ·exfalso
   have:pk s i=0:=by unfold pk;rw [Qs (by omega)];rfl
   rw [this] at h;cases h
structure FA where
 e:Int
 f:Int
def FA.ok (x:FA):Bool:=x.e==0&&x.f==0
def FA.fail (x:FA) (e f:Int):FA:=if x.ok=true then ⟨e,f⟩ else x
theorem FA.qH {x:FA} (h:x.ok=false) (e f:Int):x.fail e f=x:=if_neg (by rw [h];decide)
theorem FA.qt {x:FA} (h:x.ok=true) (e f:Int):x.fail e f=⟨e,f⟩:=if_pos h
theorem FA.zero {x:FA} (h:x.ok=true):x=⟨0,0⟩:=by
 obtain ⟨e,f⟩:=x;unfold FA.ok at h;simp at h;rw [h.1,h.2]
theorem fa5 (f:Int):(FA.mk 5 f).ok=false:=rfl
theorem fa3 (f:Int):(FA.mk 3 f).ok=false:=rfl
abbrev outA (v:AV) (s:List Nat) (i dp n:Int) (x:FA) (l:List AV):AV×Heap×Vecs:=(v,[(0,HO.cells false [.str s,.int .i64 i,.int .i64 dp,.int .i64 n,AV.sym 0,.int .i64 x.e,.int .i64 x.f])],[(0,VI.vec 6 l)])
section
variable {β:Type} {wk:Bool} {P:β->Prop} {o:Option (AV×Heap×Vecs)} {s:List Nat} {i dp:Int} {x:FA} {n:Int} {l:List AV}
theorem adU {f:List Nat->Int->Int->Int->Int->Int->List AV->Option β} (h:o=some (outA (.qc []) s i dp n x l)) (k:Wp (f s i dp n x.e x.f l) P):Wp (dD wk [D.v (K.qc 0),D.hc 0 false 7,D.v K.s,D.v (K.i IntKind.i64),D.v (K.i IntKind.i64),D.v (K.i IntKind.i64),D.v (K.c (AV.sym 0)),D.v (K.i IntKind.i64),D.v (K.i IntKind.i64),D.vec 0 6] o f) P:=by
 subst h;exact k
theorem adB {y:Bool} {f:Bool->List Nat->Int->Int->Int->Int->Int->List AV->Option β} (h:o=some (outA (.bool y) s i dp n x l)) (k:Wp (f y s i dp n x.e x.f l) P):Wp (dD wk [D.v K.b,D.hc 0 false 7,D.v K.s,D.v (K.i IntKind.i64),D.v (K.i IntKind.i64),D.v (K.i IntKind.i64),D.v (K.c (AV.sym 0)),D.v (K.i IntKind.i64),D.v (K.i IntKind.i64),D.vec 0 6] o f) P:=by
 subst h;exact k
theorem adI {y:Int} {f:Int->List Nat->Int->Int->Int->Int->Int->List AV->Option β} (h:o=some (outA (.int .i64 y) s i dp n x l)) (k:Wp (f y s i dp n x.e x.f l) P):Wp (dD wk [D.v (K.i IntKind.i64),D.hc 0 false 7,D.v K.s,D.v (K.i IntKind.i64),D.v (K.i IntKind.i64),D.v (K.i IntKind.i64),D.v (K.c (AV.sym 0)),D.v (K.i IntKind.i64),D.v (K.i IntKind.i64),D.vec 0 6] o f) P:=by
 subst h;exact k
theorem adS {y:List Nat} {f:List Nat->List Nat->Int->Int->Int->Int->Int->List AV->Option β} (h:o=some (outA (.str y) s i dp n x l)) (k:Wp (f y s i dp n x.e x.f l) P):Wp (dD wk [D.v K.s,D.hc 0 false 7,D.v K.s,D.v (K.i IntKind.i64),D.v (K.i IntKind.i64),D.v (K.i IntKind.i64),D.v (K.c (AV.sym 0)),D.v (K.i IntKind.i64),D.v (K.i IntKind.i64),D.vec 0 6] o f) P:=by
 subst h;exact k
end
def letB (c:Nat):Bool:=decide (97<=c/\c<=122\/65<=c/\c<=90)
theorem zZh:∀c,c<256->(decide (IntKind.wrap IntKind.u8 ↑(BitVec.toNat (BitVec.ofInt (IntKind.bits IntKind.u8) (Int.ofNat c) ||| BitVec.ofInt (IntKind.bits IntKind.u8) 32))>=97)&&decide (IntKind.wrap IntKind.u8 ↑(BitVec.toNat (BitVec.ofInt (IntKind.bits IntKind.u8) (Int.ofNat c) ||| BitVec.ofInt (IntKind.bits IntKind.u8) 32))<=122))=letB c:=by decide +kernel
theorem ib3B:∀c,c<256->decide (0<=Lib.indexByte ([45,95,46].map UInt8.ofNat) (UInt8.ofNat c))=decide (c=45\/c=95\/c=46):=by decide +kernel
theorem zRc (c:Nat) (h8:c<256):zEk (Int.ofNat c)=some (.bool (wrdB c)):=by
 have hl:zJy (Int.ofNat c)=some (.bool (letB c)):=by
  rw [←zZh c h8];refine zi ?_
  rw [zPh];refine Wp.ite (λ h=>Wp.mk ?_) λ h=>Wp.mk ?_
  ·rw [QI h];rfl
  ·rw [QG h];rfl
 refine zi ?_
 rw [zPi];refine qk_b hl (Wp.if (λ h=>Wp.mk ?_) λ h=>qk_b (zMC _) (Wp.if (λ d=>Wp.mk ?_) λ d=>?_))
 ·have h:=QS h;refine congrArg AV.bool ?_
  unfold wrdB;exact (QI (by omega)).symm
 ·have d:=QS d;rw [qr] at d;refine congrArg AV.bool ?_
  unfold wrdB;exact (QI (by omega)).symm
 ·have h:=Qr h;have d:=Qr d;rw [qr] at d;refine qk_i (show zAG [45,95,46] (Int.ofNat c)=some (.int .i64 (Lib.indexByte ([45,95,46].map UInt8.ofNat) (UInt8.ofNat c))) from rfl) (Wp.mk ?_)
  refine congrArg AV.bool ?_
  rw [show (decide (Lib.indexByte ([45,95,46].map UInt8.ofNat) (UInt8.ofNat c)>=0))=decide (0<=Lib.indexByte ([45,95,46].map UInt8.ofNat) (UInt8.ofNat c)) from rfl,ib3B c h8]
  unfold wrdB;exact decide_eq_decide.2 (by omega)
theorem zWx (c:Nat):zFi (Int.ofNat c)=some (.bool (namB c)):=by
 refine zi ?_
 rw [zK3]
 repeat' first | refine Wp.ite (λ _=>?_) (λ _=>?_) | refine Wp.if (λ _=>?_) (λ _=>?_) | refine qk_b (zMC _) ?_ | refine Wp.mk ?_
 all_goals simp only [qr,decide_eq_true_eq,decide_eq_false_iff_not] at *
 all_goals refine congrArg AV.bool ?_
 all_goals unfold namB lowB digB
 all_goals rw [Bool.eq_iff_iff]
 all_goals simp
 all_goals omega
theorem zX2 (c:Nat):zDT (Int.ofNat c)=some (.bool (digB c)):=by
 rw [zMC];unfold digB;congr 2;exact decide_eq_decide.2 (by rw [qr];omega)
def pfx (s:List Nat) (j:Nat) (t:List Nat):Bool:=decide (List.take t.length (List.drop j s)=t)
theorem pfx1 {s:List Nat} {j c:Nat}:pfx s j [c]=true↔s[j]? = some c:=by
 unfold pfx;rw [decide_eq_true_iff]
 constructor
 ·intro h;have:(List.take 1 (List.drop j s))[0]? = s[j]?:=by rw [List.getElem?_take_of_lt (by omega),List.getElem?_drop];rfl
  rw [←this];have h:List.take 1 (List.drop j s)=[c]:=h;rw [h];rfl
 ·intro h;obtain ⟨h0,d⟩:=QD.1 h;rw [QZ h0,d];rfl
theorem pfx2 {s:List Nat} {j c d:Nat}:pfx s j [c,d]=true↔s[j]? = some c/\s[j+1]? = some d:=by
 unfold pfx;rw [decide_eq_true_iff]
 constructor
 ·intro h;have h0:(List.take 2 (List.drop j s))[0]? = s[j]?:=by rw [List.getElem?_take_of_lt (by omega),List.getElem?_drop];rfl
  have g:(List.take 2 (List.drop j s))[1]? = s[j+1]?:=by rw [List.getElem?_take_of_lt (by omega),List.getElem?_drop]
  rw [←h0,←g];have h:List.take 2 (List.drop j s)=[c,d]:=h;rw [h];exact ⟨rfl,rfl⟩
 ·intro h;obtain ⟨h0,k⟩:=QD.1 h.1;obtain ⟨g,q⟩:=QD.1 h.2;rw [QZ h0,QZ g,k,q];rfl
theorem zSB (t u:List Nat):zFN t u=some (.bool (decide (List.take u.length t=u))):=by
 refine zi ?_
 rw [zLJ];have h:zB6 t u=some (.bool (decide (List.take u.length t=u))):=by
  refine zi ?_
  rw [zGD];refine Wp.ite (λ h=>Wp.gd ⟨QV _,h⟩ (Wp.mk ?_)) λ h=>Wp.mk ?_
  ·rw [zK];rfl
  ·have h:¬u.length<=t.length:=λ d=>h (Qi.2 d)
   rw [QG];intro e;have:=congrArg List.length e;rw [Qe] at this;omega
 exact qk_b h (Wp.mk rfl)
section
variable {s:List Nat} (hs:s.length<=65536) (x:FA) (dp n:Int) (l:List AV)
include hs
theorem zCL (i:Nat) (k:i<=s.length):z5 s (Int.ofNat i) dp n x.e x.f l=some (outA (.qc []) s (Int.ofNat (sk s i)) dp n x l):=by
 have loop:∀(m i:Nat),i<=s.length->s.length-i<m->zCI m s (Int.ofNat i) dp n x.e x.f l=some (outA (.qc []) s (Int.ofNat (sk s i)) dp n x l):=by
  intro m
  induction m with
  | zero=>intro i _ h;omega
  | succ m q=>
   intro i k r;refine zi ?_
   rw [zJF];refine Wp.lt (λ d=>Wp.bd (R:=λ c=>c=s[i]) ⟨_,zAw d,rfl⟩ λ c hc=>Wp.if (λ h=>?_) λ h=>?_) λ j=>Wp.mk ?_
   ·subst hc;have g:isAt (·==32) s i=true:=by rw [zA d];exact beq_iff_eq.2 ((beqN (y:=32)).1 h)
    rw [zJE,zc (by omega),q (i+1) d (by omega)]
    refine Wp.mk ?_
    unfold sk;rw [zGy g,show i+1+rn (·==32) s (i+1)=i+(rn (·==32) s (i+1)+1) by omega]
   ·subst hc;have g:isAt (·==32) s i=false:=by rw [zA d];exact beq_eq_false_iff_ne.2 ((zBh (y:=32)).1 h)
    refine Wp.mk ?_
    rw [zJ9 g]
   ·rw [zJ9 (zBp j)]
 rw [zK2];exact loop FUEL i k (by have:=zC (n:=65537) (by omega);omega)
theorem a_is (t:List Nat) (i:Nat) (d:i<=s.length):zm t s (Int.ofNat i) dp n x.e x.f l=some (outA (.bool (pfx s (sk s i) t)) s (if pfx s (sk s i) t=true then Int.ofNat (sk s i+t.length) else Int.ofNat (sk s i)) dp n x l):=by
 refine zi ?_
 have g:=zAM d;rw [zM6];refine adU (zCL hs x dp n l i d) (Wp.gd ⟨QV _,Qi.2 g⟩ ?_)
 have e:List.drop (Int.toNat (Int.ofNat (sk s i))) (List.take (Int.toNat (Int.ofNat s.length)) s)=List.drop (sk s i) s:=by
  show List.drop (sk s i) (List.take s.length s)=_
  rw [List.take_length]
 rw [e];refine qk_b (zSB _ t) (Wp.if (λ h=>Wp.mk ?_) λ h=>?_)
 ·have h:pfx s (sk s i) t=false:=by
   have h:(!(pfx s (sk s i) t))=true:=h
   simpa using h
  rw [h];rfl
 ·have h:pfx s (sk s i) t=true:=by
   have h:(!(pfx s (sk s i) t))=false:=h
   simpa using h
  rw [h,if_pos rfl];have hl:sk s i+t.length<=s.length:=by
   have:=congrArg List.length (QS h);rw [Qe,Qk] at this;omega
  rw [zL (by rw [qr,qr];omega) (by rw [qr,qr];omega)]
  exact Wp.mk rfl
omit hs in
theorem zES (e f i:Int):zE e f s i dp n x.e x.f l=some (outA (.qc []) s i dp n (x.fail e f) l):=by
 refine zi ?_
 rw [zLK];refine Wp.if (λ h=>Wp.mk ?_) λ h=>Wp.mk ?_
 ·have h:x.ok=true:=h;rw [FA.qt h]
 ·have h:x.ok=false:=h;rw [FA.qH h]
omit hs in
theorem zL4 (f i:Int):zA9 f s i dp n x.e x.f l=some (outA (.qc []) s i dp (wrapx .i64 (n+1)) (if 64<wrapx .i64 (n+1) then x.fail 3 f else x) l):=by
 refine zi ?_
 rw [zLL];refine Wp.ite (λ h=>adU (zES x dp (wrapx .i64 (n+1)) l _ f i) (Wp.mk ?_)) λ h=>Wp.mk ?_
 ·rw [if_pos h];rfl
 ·rw [if_neg h]
omit hs in
theorem zTG (f i:Int) (h:dp+1<=32) (h0:0<=dp):zDS f s i dp n x.e x.f l=some (outA (.bool true) s i (dp+1) n x l):=by
 refine zi ?_
 rw [zIL,zL (by omega) (by omega)]
 exact Wp.ite (λ d=>absurd d (by omega)) λ _=>Wp.mk rfl
omit hs in
theorem zRd (f i:Int) (h:dp=32):zDS f s i dp n x.e x.f l=some (outA (.bool false) s i 33 n (x.fail 3 f) l):=by
 subst h;refine zi ?_
 rw [zIL,show wrapx .i64 ((32:Int)+1)=33 from rfl]
 exact Wp.ite (λ _=>adU (zES x 33 n l 3 f i) (Wp.mk rfl)) λ h=>absurd (by decide) h
omit hs in
theorem zEq (k:Int) (a b:List Nat) (m p q i:Int) (h:x.ok=false):zAR k a b m p q s i dp n x.e x.f l=some (outA (.int .i64 (Int.negSucc 0)) s i dp n x l):=by
 refine zi ?_
 rw [zHJ];refine Wp.if (λ _=>Wp.mk rfl) λ d=>?_
 have d:(!x.ok)=false:=by
  have g:(match x.ok with | true=>false | false=>true)=false:=by
   revert d
   unfold FA.ok;cases (x.e==0&&x.f==0) <;> intro d <;> first | rfl | exact d
  cases hx:x.ok with
  | true=>rfl
  | false=>rw [hx] at g;cases g
 rw [h] at d;cases d
omit hs in
theorem zE5 (k:Int) (a b:List Nat) (m p q i:Int) (h:x.ok=true) (hl:l.length<=64):zAR k a b m p q s i dp n x.e x.f l=some (outA (.int .i64 (Int.ofNat l.length)) s i dp n x (l++[nd6 k a b m p q])):=by
 have:=FA.zero h;subst this;refine zi ?_
 rw [zHJ];refine Wp.if (λ h=>by cases h) λ _=>Wp.gd ?_ (Wp.mk ?_)
 ·show (l.length+1)*64<=zd/\l.length+1<=zd
  unfold zd;omega
 ·show outA (.int .i64 (wrapx .i64 (Int.ofNat (l++[nd6 k a b m p q]).length-1))) s i dp n ⟨0,0⟩ (l++[nd6 k a b m p q])=_
  rw [QH];have e:wrapx .i64 (Int.ofNat (l.length+[nd6 k a b m p q].length)-1)=Int.ofNat l.length:=zCk (i:=l.length+1) (by omega) (by omega)
  rw [e]
theorem zUl (m:Nat) (hm:m<=1000) (i:Nat) (u:i<=s.length):zBq (Int.ofNat m) s (Int.ofNat i) dp n x.e x.f l=some (outA (.str (cutS s i (i+min m (rn namB s i)))) s (Int.ofNat (i+min m (rn namB s i))) dp n x l):=by
 have C:=zBY namB s i u;have loop:∀(w t:Nat),t<=min m (rn namB s i)->s.length-(i+t)<w->z9 w (Int.ofNat m) (Int.ofNat i) s (Int.ofNat (i+t)) dp n x.e x.f l=some (outA (.str (cutS s i (i+min m (rn namB s i)))) s (Int.ofNat (i+min m (rn namB s i))) dp n x l):=by
  intro w
  induction w with
  | zero=>intro t _ h;omega
  | succ w z=>
   intro t A B;refine zi ?_
   have k:t=min m (rn namB s i)->Wp (gd (decide (0<=Int.ofNat i/\Int.ofNat i<=Int.ofNat (i+t)/\Int.ofNat (i+t)<=Int.ofNat s.length)) (some (AV.str (List.drop (Int.toNat (Int.ofNat i)) (List.take (Int.toNat (Int.ofNat (i+t))) s)),[(0,HO.cells false [.str s,.int .i64 (Int.ofNat (i+t)),.int .i64 dp,.int .i64 n,AV.sym 0,.int .i64 x.e,.int .i64 x.f])],[(0,VI.vec 6 l)]))) λ v=>v=outA (.str (cutS s i (i+min m (rn namB s i)))) s (Int.ofNat (i+min m (rn namB s i))) dp n x l:=λ h=>by
    refine Wp.gd ⟨QV _,Qi.2 (by omega),Qi.2 (by omega)⟩ (Wp.mk ?_)
    rw [←h];rfl
   have d:isAt namB s (i+t)=false->t=min m (rn namB s i):=λ h=>by
    by_cases r:t<rn namB s i
    ·rw [zCl t i r] at h;cases h
    ·omega
   rw [zE0];refine Wp.lt (λ g=>Wp.ite (λ j=>Wp.bd (R:=λ c=>c=s[i+t]) ⟨_,zAw g,rfl⟩ λ c hc=>qk_b (zWx c) (Wp.if (λ h=>?_) λ h=>?_)) λ j=>k ?_) λ q=>k (d (zBp q))
   ·subst hc;rw [zL (by rw [qr,qr];omega) (by rw [qr,qr];omega),qr,qr,qr] at j
    rw [zEZ,zc (by omega),show i+t+1=i+(t+1) by omega,z (t+1) ?_ (by omega)]
    ·exact Wp.mk rfl
    ·have:t≠rn namB s i:=λ e=>by
      have:=zDQ namB s _ i (QA _);rw [←e,zA g,h] at this;cases this
     omega
   ·subst hc;exact k (d (by rw [zA g];exact h))
   ·rw [zL (by rw [qr,qr];omega) (by rw [qr,qr];omega),qr,qr,qr] at j
    omega
 rw [zFz];exact loop FUEL 0 (QP _) (by have:=zC (n:=65537) (by omega);omega)
theorem zUm (m:Nat) (hm:m<=1000) (h8:∀c∈s,c<256) (i:Nat) (u:i<=s.length):zCD (Int.ofNat m) s (Int.ofNat i) dp n x.e x.f l=some (outA (.str (cutS s i (i+min m (rn wrdB s i)))) s (Int.ofNat (i+min m (rn wrdB s i))) dp n x l):=by
 have C:=zBY wrdB s i u;have loop:∀(w t:Nat),t<=min m (rn wrdB s i)->s.length-(i+t)<w->zAY w (Int.ofNat m) (Int.ofNat i) s (Int.ofNat (i+t)) dp n x.e x.f l=some (outA (.str (cutS s i (i+min m (rn wrdB s i)))) s (Int.ofNat (i+min m (rn wrdB s i))) dp n x l):=by
  intro w
  induction w with
  | zero=>intro t _ h;omega
  | succ w z=>
   intro t A B;refine zi ?_
   have k:t=min m (rn wrdB s i)->Wp (gd (decide (0<=Int.ofNat i/\Int.ofNat i<=Int.ofNat (i+t)/\Int.ofNat (i+t)<=Int.ofNat s.length)) (some (AV.str (List.drop (Int.toNat (Int.ofNat i)) (List.take (Int.toNat (Int.ofNat (i+t))) s)),[(0,HO.cells false [.str s,.int .i64 (Int.ofNat (i+t)),.int .i64 dp,.int .i64 n,AV.sym 0,.int .i64 x.e,.int .i64 x.f])],[(0,VI.vec 6 l)]))) λ v=>v=outA (.str (cutS s i (i+min m (rn wrdB s i)))) s (Int.ofNat (i+min m (rn wrdB s i))) dp n x l:=λ h=>by
    refine Wp.gd ⟨QV _,Qi.2 (by omega),Qi.2 (by omega)⟩ (Wp.mk ?_)
    rw [←h];rfl
   have g:isAt wrdB s (i+t)=false->t=min m (rn wrdB s i):=λ h=>by
    by_cases r:t<rn wrdB s i
    ·rw [zCl t i r] at h;cases h
    ·omega
   rw [zGF];refine Wp.lt (λ d=>Wp.ite (λ j=>Wp.bd (R:=λ c=>c=s[i+t]) ⟨_,zAw d,rfl⟩ λ c hc=>qk_b (zRc c (by subst hc;exact h8 _ (Qq d))) (Wp.if (λ h=>?_) λ h=>?_)) λ j=>k ?_) λ q=>k (g (zBp q))
   ·subst hc;rw [zL (by rw [qr,qr];omega) (by rw [qr,qr];omega),qr,qr,qr] at j
    rw [zGE,zc (by omega),show i+t+1=i+(t+1) by omega,z (t+1) ?_ (by omega)]
    ·exact Wp.mk rfl
    ·have:t≠rn wrdB s i:=λ e=>by
      have:=zDQ wrdB s _ i (QA _);rw [←e,zA d,h] at this;cases this
     omega
   ·subst hc;exact k (g (by rw [zA d];exact h))
   ·rw [zL (by rw [qr,qr];omega) (by rw [qr,qr];omega),qr,qr,qr] at j
    omega
 rw [zHt];exact loop FUEL 0 (QP _) (by have:=zC (n:=65537) (by omega);omega)
theorem zTa (m:Nat) (hm:m<=1000) (i:Nat) (u:i<=s.length):zCM (Int.ofNat m) s (Int.ofNat i) dp n x.e x.f l=some (outA (.str (cutS s i (i+min m (rn digB s i)))) s (Int.ofNat (i+min m (rn digB s i))) dp n x l):=by
 have C:=zBY digB s i u;have loop:∀(w t:Nat),t<=min m (rn digB s i)->s.length-(i+t)<w->zA6 w (Int.ofNat m) (Int.ofNat i) s (Int.ofNat (i+t)) dp n x.e x.f l=some (outA (.str (cutS s i (i+min m (rn digB s i)))) s (Int.ofNat (i+min m (rn digB s i))) dp n x l):=by
  intro w
  induction w with
  | zero=>intro t _ h;omega
  | succ w z=>
   intro t A B;refine zi ?_
   have k:t=min m (rn digB s i)->Wp (gd (decide (0<=Int.ofNat i/\Int.ofNat i<=Int.ofNat (i+t)/\Int.ofNat (i+t)<=Int.ofNat s.length)) (some (AV.str (List.drop (Int.toNat (Int.ofNat i)) (List.take (Int.toNat (Int.ofNat (i+t))) s)),[(0,HO.cells false [.str s,.int .i64 (Int.ofNat (i+t)),.int .i64 dp,.int .i64 n,AV.sym 0,.int .i64 x.e,.int .i64 x.f])],[(0,VI.vec 6 l)]))) λ v=>v=outA (.str (cutS s i (i+min m (rn digB s i)))) s (Int.ofNat (i+min m (rn digB s i))) dp n x l:=λ h=>by
    refine Wp.gd ⟨QV _,Qi.2 (by omega),Qi.2 (by omega)⟩ (Wp.mk ?_)
    rw [←h];rfl
   have d:isAt digB s (i+t)=false->t=min m (rn digB s i):=λ h=>by
    by_cases r:t<rn digB s i
    ·rw [zCl t i r] at h;cases h
    ·omega
   rw [zGW];refine Wp.lt (λ g=>Wp.ite (λ j=>Wp.bd (R:=λ c=>c=s[i+t]) ⟨_,zAw g,rfl⟩ λ c hc=>qk_b (zX2 c) (Wp.if (λ h=>?_) λ h=>?_)) λ j=>k ?_) λ q=>k (d (zBp q))
   ·subst hc;rw [zL (by rw [qr,qr];omega) (by rw [qr,qr];omega),qr,qr,qr] at j
    rw [zGV,zc (by omega),show i+t+1=i+(t+1) by omega,z (t+1) ?_ (by omega)]
    ·exact Wp.mk rfl
    ·have:t≠rn digB s i:=λ e=>by
      have:=zDQ digB s _ i (QA _);rw [←e,zA g,h] at this;cases this
     omega
   ·subst hc;exact k (d (by rw [zA g];exact h))
   ·rw [zL (by rw [qr,qr];omega) (by rw [qr,qr];omega),qr,qr,qr] at j
    omega
 rw [zHM];exact loop FUEL 0 (QP _) (by have:=zC (n:=65537) (by omega);omega)
theorem zYR (h8:∀c∈s,c<256) (i:Nat) (g:i<=s.length):zBr s (Int.ofNat i) dp n x.e x.f l=some (outA (.str (cutS s (sk s i) (sk s i+min 32 (rn wrdB s (sk s i))))) s (Int.ofNat (sk s i+min 32 (rn wrdB s (sk s i)))) dp n (if rn wrdB s (sk s i)=0 then x.fail 5 (Int.ofNat (sk s i)) else x) l):=by
 refine zi ?_
 have d:=zAM g;have j:=zBY wrdB s (sk s i) d;rw [zMf];refine adU (zCL hs x dp n l i g) (adS (zUm hs x dp n l 32 (by decide) h8 (sk s i) d) ?_)
 have he:seqb (cutS s (sk s i) (sk s i+min 32 (rn wrdB s (sk s i)))) []=decide (rn wrdB s (sk s i)=0):=by
  rw [zK];refine decide_eq_decide.2 ⟨λ h=>?_,λ h=>?_⟩
  ·have:=zB4 (s:=s) (i:=sk s i) (k:=min 32 (rn wrdB s (sk s i))) (by omega)
   rw [h] at this;have:0=min 32 (rn wrdB s (sk s i)):=this;omega
  ·exact List.eq_nil_of_length_eq_zero (by rw [zB4 (by omega)];omega)
 rw [he];refine Wp.ite (λ h=>adU (zES x dp n l 5 _ _) (Wp.mk ?_)) λ h=>Wp.mk ?_
 ·rw [if_pos h,h];rfl
 ·rw [if_neg h]
omit hs in
theorem pum (M:Nat) (g:999999999999<=M):∀(w:List Nat) (acc:Nat),(∀c∈w,digB c=true)->w.foldl (λ x c=>10*x+(c-48)) acc<=999999999999->Lib.parseUintM M acc (w.map UInt8.ofNat)=.ok (w.foldl (λ x c=>10*x+(c-48)) acc)
 | [],acc,_,_=>rfl
 | c::r,acc,h,d=>by
  have hc:=QS (h c (.head _));have d:r.foldl (λ x c=>10*x+(c-48)) (10*acc+(c-48))<=999999999999:=d
  have k:=zQt r (10*acc+(c-48));have e:(UInt8.ofNat c).toNat=c:=by rw [UInt8.toNat_ofNat'];omega
  have j:acc*10+(c-48)=10*acc+(c-48):=by omega
  rw [Qd,Lib.parseUintM,e,if_pos hc,if_neg (by omega),j,if_neg (by omega)]
  exact pum M g r _ (λ c hc=>h c (.tail _ hc)) d
omit hs in
theorem zWy (w:List Nat) (h0:0<w.length) (hl:w.length<=12) (d:∀c∈w,digB c=true):∃v,zCZ w (Int.ofNat 10) (Int.ofNat 64)=some (.qc [.int .i64 (Int.ofNat (numV w)),v]):=by
 have e:Nat.ble w.length 281474976710656=true:=by rw [Qv];omega
 have q:(Nat.ble w.length 281474976710656&&(Int.ofNat 10==10&&Int.ofNat 64==64))=true:=by rw [e];rfl
 have k:=zQs d hl;have j:Lib.parseIntB 64 (w.map UInt8.ofNat)=.ok (Int.ofNat (numV w)):=by
  cases w with
  | nil=>cases h0
  | cons c r=>
   have hc:=QS (d c (.head _));have g:(UInt8.ofNat c).toNat=c:=by rw [UInt8.toNat_ofNat'];omega
   have h:Lib.parseUintB 64 ((c::r).map UInt8.ofNat)=.ok (numV (c::r)):=by
    unfold Lib.parseUintB;rw [if_neg (by simp)]
    exact pum _ (by decide) (c::r) 0 d k
   rw [Qd] at h ⊢;rw [Lib.parseIntB_plain 64 _ _ (by rw [g];omega) (by rw [g];omega),h]
   show (if 2 ^ (64-1)<=numV (c::r) then Lib.NumEnd.range else Lib.NumEnd.ok ((numV (c::r):Nat):Int))=_
   rw [if_neg (by omega)]
   rfl
 unfold zCZ zDx zPW;simp only [q,j];exact ⟨_,rfl⟩
omit hs in
theorem zWz (w:List Nat) (hl:w.length<=12) (g:∀c∈w,digB c=true):∃y,zHj w=some (.int .i64 y)/\(0<w.length->y=Int.ofNat (numV w)):=by
 by_cases h0:0<w.length
 ·obtain ⟨v,d⟩:=zWy w h0 hl g;refine ⟨_,zi ?_,λ _=>rfl⟩
  rw [zKR];exact zTx d (Wp.mk rfl)
 ·obtain ⟨y,v,d,_⟩:=zSq w (by omega)
  refine ⟨y,zi ?_,λ h=>absurd h h0⟩
  rw [zKR];exact zTx d (Wp.mk rfl)
theorem zWA (i:Nat) (r:i<=s.length):∃y,zAZ s (Int.ofNat i) dp n x.e x.f l=some (outA (.int .i64 y) s (Int.ofNat (sk s i+min 12 (rn digB s (sk s i)))) dp n (if rn digB s (sk s i)=0 then x.fail 5 (Int.ofNat (sk s i)) else x) l)/\(rn digB s (sk s i)≠0->y=Int.ofNat (numV (cutS s (sk s i) (sk s i+min 12 (rn digB s (sk s i)))))):=by
 have j:=zAM r;have t:=zBY digB s (sk s i) j;have d:=zB4 (s:=s) (i:=sk s i) (k:=min 12 (rn digB s (sk s i))) (by omega)
 obtain ⟨y,q,g⟩:=zWz (cutS s (sk s i) (sk s i+min 12 (rn digB s (sk s i)))) (by rw [d];omega) (zHo (by omega) (Nat.min_le_right _ _))
 refine ⟨y,zi ?_,λ h=>g (by rw [d];omega)⟩
 rw [zK4];refine adU (zCL hs x dp n l i r) (adS (zTa hs x dp n l 12 (by decide) (sk s i) j) ?_)
 have he:seqb (cutS s (sk s i) (sk s i+min 12 (rn digB s (sk s i)))) []=decide (rn digB s (sk s i)=0):=by
  rw [zK];refine decide_eq_decide.2 ⟨λ h=>?_,λ h=>?_⟩
  ·rw [h] at d;have:0=min 12 (rn digB s (sk s i)):=d;omega
  ·exact List.eq_nil_of_length_eq_zero (by rw [d];omega)
 rw [he];refine Wp.ite (λ h=>adU (zES x dp n l 5 _ _) (qk_i q (Wp.mk ?_))) λ h=>qk_i q (Wp.mk ?_)
 ·rw [if_pos h,h];rfl
 ·rw [if_neg h]
end
end Go.Proofs.YtdeeimaahdgeaaaGreatDoor.spec
namespace Go.Proofs.YtdeeimaahdgeaaaGreatDoor.spec
open Go Go.Sy
variable [MX]
def zDt (s:List Nat) (x:FA) (v:AV×Heap×Vecs):Prop:=∃(y:Int) (i:Nat) (dp n:Int) (l:List AV),i<=s.length/\v=outA (.int .i64 y) s (Int.ofNat i) dp n x l
def zZi (s:List Nat) (l:List AV) (dp:Int) (n0:Nat) (f:Int) (v:AV×Heap×Vecs):Prop:=∃(y:Int) (i d:Nat) (g:List AV),f=Int.ofNat i/\isAt wrdB s i=true/\d<=64/\g.length+n0<=l.length+d/\v=outA (.int .i64 y) s (Int.ofNat i) dp (Int.ofNat d) ⟨0,0⟩ g
def OutA (s:List Nat) (l:List AV) (dp:Int) (n0:Nat):RE (Nat×Nat×RT)->AV×Heap×Vecs->Prop
 | .ok (i,n,t),v=>v=outA (.int .i64 (Int.ofNat (l.length+t.size-1))) s (Int.ofNat i) dp (Int.ofNat n) ⟨0,0⟩ (l++t.fl l.length)
 | .error (e,f),v=>((FA.mk e f).ok=false/\zDt s ⟨e,f⟩ v)\/(e=5/\zZi s l dp n0 f v)
section
variable {s:List Nat} {l:List AV} {dp:Int}
theorem zKc {i:Nat} (h:isAt wrdB s i=true):isAt (·==32) s i=false:=by
 unfold isAt at h ⊢;split at h
 ·rename_i c _;have:=QS h;exact beq_eq_false_iff_ne.2 (by omega)
 ·cases h
theorem zO8 {i c:Nat} (h:isAt wrdB s i=true) (hc:wrdB c=false):pfx s i [c]=false:=by
 cases hp:pfx s i [c] with
 | false=>rfl
 | true=>
  have:=pfx1.1 hp;unfold isAt at h;rw [this] at h;have h:wrdB c=true:=h;rw [hc] at h;cases h
variable (hs:s.length<=65536)
include hs
def Res3 (s:List Nat) (l:List AV) (dp:Int) (n:Nat) (x:FA) (r:RE (Nat×Nat×RT)) (v:AV×Heap×Vecs):Prop:=(x.ok=false->zDt s x v)/\(x.ok=true->OutA s l dp n r v)
theorem zDh {x:FA} (h:x.ok=false) (k:Int) (a b:List Nat) (m p q:Int) (i:Nat) (d:i<=s.length) (n:Int):Wp (zr s (Int.ofNat i) dp n x.e x.f k a b m p q l) (zDt s x):=by
 rw [zGh];exact adI (zEq x dp n l k a b m p q _ h) (Wp.mk ⟨_,_,_,_,_,d,rfl⟩)
theorem zKK (k:Int) (a b:List Nat) (m p q:Int) (i n:Int) (hl:l.length<=64):Wp (zr s i dp n 0 0 k a b m p q l) λ v=>v=outA (.int .i64 (Int.ofNat l.length)) s i dp n ⟨0,0⟩ (l++[nd6 k a b m p q]):=by
 rw [zGh];exact adI (zE5 ⟨0,0⟩ dp n l k a b m p q i rfl hl) (Wp.mk rfl)
theorem zTH (h8:∀c∈s,c<256) (x:FA) (j n:Nat) (m:Int) (k:Int) (a:List Nat) (E:j<=s.length) (hm:x.ok=true->m=Int.ofNat (n+1)) (A:n+1<=64\/x.ok=false) (hl:l.length<=n) (r:l.length<=64):
  Wp (dD true [D.v K.s,D.hc 0 false 7,D.v K.s,D.v (K.i IntKind.i64),D.v (K.i IntKind.i64),D.v (K.i IntKind.i64),D.v (K.c (AV.sym 0)),D.v (K.i IntKind.i64),D.v (K.i IntKind.i64),D.vec 0 6] (zBr s (Int.ofNat j) dp m x.e x.f l) λ F H z B q u t C=>zr H z B q u t k a F (Int.ofNat 0) (Int.negSucc 0) (Int.negSucc 0) C) (Res3 s l dp n x (zKa s j n k a)):=by
 have G:=zAM E;have I:=zBY wrdB s (sk s j) G;refine adS (zYR hs x dp m l h8 j E) ?_
 cases hx:x.ok with
 | false=>
  rw [FA.qH hx,ite_self];exact (zDh hs hx k a _ _ _ _ _ (by omega) m).mono λ v g=>⟨λ _=>g,λ h=>by rw [hx] at h;cases h⟩
 | true=>
  have:=FA.zero hx;subst this;have hm:=hm hx;subst hm;have A:=A.resolve_right (by rw [hx];decide)
  unfold zKa zNO;by_cases h0:rn wrdB s (sk s j)=0
  ·rw [if_pos h0,if_pos h0,FA.qt hx];exact (zDh hs (fa5 _) k a _ _ _ _ _ (by omega) _).mono λ v g=>⟨λ h=>(by cases h),λ _=>.inl ⟨fa5 _,g⟩⟩
  ·rw [if_neg h0,if_neg h0];refine (zKK hs k a _ _ _ _ _ _ r).mono λ v g=>⟨λ h=>(by cases h),λ _=>?_⟩
   by_cases d:32<rn wrdB s (sk s j)
   ·rw [if_pos d];refine .inr ⟨rfl,_,sk s j+32,n+1,_,rfl,zCl 32 _ d,A,?_,g.trans (by rw [show min 32 (rn wrdB s (sk s j))=32 by omega])⟩
    rw [QH];show l.length+1+n<=_
    omega
   ·rw [if_neg d];show v=_
    rw [zGa,g,show min 32 (rn wrdB s (sk s j))=rn wrdB s (sk s j) by omega]
    rfl
theorem zTI (x:FA) (j n:Nat) (m:Int) (k:Int) (a:List Nat) (G:j<=s.length) (hm:x.ok=true->m=Int.ofNat (n+1)) (C:n+1<=64\/x.ok=false) (hl:l.length<=n) (r:l.length<=64):
  Wp (dD true [D.v (K.i IntKind.i64),D.hc 0 false 7,D.v K.s,D.v (K.i IntKind.i64),D.v (K.i IntKind.i64),D.v (K.i IntKind.i64),D.v (K.c (AV.sym 0)),D.v (K.i IntKind.i64),D.v (K.i IntKind.i64),D.vec 0 6] (zAZ s (Int.ofNat j) dp m x.e x.f l) λ t M z u B q F E=>zr M z u B q F k a [] t (Int.negSucc 0) (Int.negSucc 0) E) (Res3 s l dp n x (zKb s j n k a)):=by
 have I:=zAM G;have O:=zBY digB s (sk s j) I;obtain ⟨y,J,g⟩:=zWA hs x dp m l j G;refine adI J ?_
 cases hx:x.ok with
 | false=>
  rw [FA.qH hx,ite_self];exact (zDh hs hx k a _ _ _ _ _ (by omega) m).mono λ v d=>⟨λ _=>d,λ h=>by rw [hx] at h;cases h⟩
 | true=>
  have:=FA.zero hx;subst this;have hm:=hm hx;subst hm;have C:=C.resolve_right (by rw [hx];decide)
  unfold zKb zL0;by_cases h0:rn digB s (sk s j)=0
  ·rw [if_pos h0,FA.qt hx];have H:sk s j+min 12 (rn digB s (sk s j))=sk s j:=by omega
   have key:∀v,zDt s ⟨5,Int.ofNat (sk s j)⟩ v->Res3 s l dp n ⟨0,0⟩ (match (if isAt wrdB s (sk s j+min 12 (rn digB s (sk s j)))=true then (.error (5,Int.ofNat (sk s j+min 12 (rn digB s (sk s j)))):RE (Nat×Int)) else if rn digB s (sk s j)=0 then .error (5,Int.ofNat (sk s j)) else .ok (sk s j+min 12 (rn digB s (sk s j)),Int.ofNat (numV (cutS s (sk s j) (sk s j+min 12 (rn digB s (sk s j))))))) with | .error e=>.error e | .ok (j,x)=>.ok (j,n+1,.leaf k a [] x)) v:=λ v d=>by
    refine ⟨λ h=>(by cases h),λ _=>?_⟩
    rw [if_pos h0,H];split
    ·rename_i e he;have he:e=(5,Int.ofNat (sk s j)):=by
      split at he <;> cases he <;> rfl
     subst he;exact .inl ⟨fa5 _,d⟩
    ·rename_i he;split at he <;> cases he
   exact (zDh hs (fa5 _) k a _ _ _ _ _ (by omega) _).mono λ v d=>key v d
  ·rw [if_neg h0,if_neg h0];refine (zKK hs k a _ _ _ _ _ _ r).mono λ v d=>⟨λ h=>(by cases h),λ _=>?_⟩
   by_cases A:isAt wrdB s (sk s j+min 12 (rn digB s (sk s j)))=true
   ·rw [if_pos A];refine .inr ⟨rfl,_,_,n+1,_,rfl,A,C,?_,d⟩
    rw [QH];show l.length+1+n<=_
    omega
   ·rw [if_neg A,g h0] at *;show v=_
    rw [zGa,d];rfl
theorem zLp (x:FA) (b:Bool) (j n:Nat) (m:Int) (a:List Nat) (q:j<=s.length) (hm:x.ok=true->m=Int.ofNat (n+1)) (t:n+1<=64\/x.ok=false) (k:l.length<=64) (r:RE (Nat×Nat×RT)) (g:(b=true->r=.error (5,Int.ofNat j))/\(b=false->r=.ok (j,n+1,.leaf 6 a [] 0))):
  Wp (zAi b s (Int.ofNat j) dp m x.e x.f (Int.ofNat 6) a [] (Int.ofNat 0) (Int.negSucc 0) (Int.negSucc 0) l) (Res3 s l dp n x r):=by
 rw [zKS];refine Wp.if (λ h=>adU (zES x dp m l 5 _ _) ?_) λ h=>?_
 ·have g:=g.1 h;subst g;cases hx:x.ok with
  | false=>
   rw [FA.qH hx];exact (zDh hs hx _ a _ _ _ _ _ q m).mono λ v d=>⟨λ _=>d,λ h=>by rw [hx] at h;cases h⟩
  | true=>
   rw [FA.qt hx];exact (zDh hs (fa5 _) _ a _ _ _ _ _ q m).mono λ v d=>⟨λ h=>(by rw [hx] at h;cases h),λ _=>.inl ⟨fa5 _,d⟩⟩
 ·have g:=g.2 h;subst g;cases hx:x.ok with
  | false=>exact (zDh hs hx _ a _ _ _ _ _ q m).mono λ v d=>⟨λ _=>d,λ h=>by rw [hx] at h;cases h⟩
  | true=>
   have:=FA.zero hx;subst this;have hm:=hm hx;subst hm;refine (zKK hs _ a _ _ _ _ _ _ k).mono λ v d=>⟨λ h=>(by cases h),λ _=>?_⟩
   show v=_
   rw [zGa,d];rfl
theorem zCc (x:FA) (t:List Nat) (i:Nat) (d:i<=s.length) (m:Int) {β:Type} {P:β->Prop} {wk:Bool} {f:Bool->List Nat->Int->Int->Int->Int->Int->List AV->Option β}
  (h1:pfx s (sk s i) t=true->sk s i+t.length<=s.length->Wp (f true s (Int.ofNat (sk s i+t.length)) dp m x.e x.f l) P) (g:pfx s (sk s i) t=false->Wp (f false s (Int.ofNat (sk s i)) dp m x.e x.f l) P):
  Wp (dD wk [D.v K.b,D.hc 0 false 7,D.v K.s,D.v (K.i IntKind.i64),D.v (K.i IntKind.i64),D.v (K.i IntKind.i64),D.v (K.c (AV.sym 0)),D.v (K.i IntKind.i64),D.v (K.i IntKind.i64),D.vec 0 6] (zm t s (Int.ofNat i) dp m x.e x.f l) f) P:=by
 refine adB (a_is hs x dp m l t i d) ?_
 cases hp:pfx s (sk s i) t with
 | true=>
  have hl:sk s i+t.length<=s.length:=by
   have:=congrArg List.length (QS hp);rw [Qe,Qk] at this;have:=zAM d;omega
  exact h1 hp hl
 | false=>exact g hp
theorem npf1 {i c:Nat} (h:pfx s i [c]=false):¬s[i]? = some c:=λ d=>by rw [pfx1.2 d] at h;cases h
theorem npf2 {i c d:Nat} (h:pfx s i [c,d]=false):¬(s[i]? = some c/\s[i+1]? = some d):=λ g=>by rw [pfx2.2 g] at h;cases h
theorem zVG (h8:∀c∈s,c<256) (i0:Int) (i n:Nat) (a:List Nat) (hi:i<=s.length) (W:n<=64) (hl:l.length<=n):
  Wp (zEU i0 a s (Int.ofNat i) dp (Int.ofNat n) 0 0 l) (OutA s l dp n (if 64<n+1 then .error (3,i0) else zEo s (sk s i) n a)):=by
 rw [zKT];refine adU (zL4 ⟨0,0⟩ dp (Int.ofNat n) l i0 _) ?_
 rw [zc (by omega)]
 have hk:=zAM hi;have g:l.length<=64:=by omega
 have key:∀x:FA,(x.ok=true->Int.ofNat (n+1)=Int.ofNat (n+1))->(n+1<=64\/x.ok=false)->(∀r v,Res3 s l dp n x r v->OutA s l dp n (if 64<n+1 then .error (3,i0) else r) v)->Wp (dD true [D.v K.b,D.hc 0 false 7,D.v K.s,D.v (K.i IntKind.i64),D.v (K.i IntKind.i64),D.v (K.i IntKind.i64),D.v (K.c (AV.sym 0)),D.v (K.i IntKind.i64),D.v (K.i IntKind.i64),D.vec 0 6] (zm [33,61] s (Int.ofNat i) dp (Int.ofNat (n+1)) x.e x.f l) (λ b2 s3 ai ab ag ao ae ac=>br b2 (dD true [D.v K.s,D.hc 0 false 7,D.v K.s,D.v (K.i IntKind.i64),D.v (K.i IntKind.i64),D.v (K.i IntKind.i64),D.v (K.c (AV.sym 0)),D.v (K.i IntKind.i64),D.v (K.i IntKind.i64),D.vec 0 6] (zBr s3 ai ab ag ao ae ac) λ s4 s5 O z I q U H=>zr s5 O z I q U (Int.ofNat 3) a s4 (Int.ofNat 0) (Int.negSucc 0) (Int.negSucc 0) H) (dD true [D.v K.b,D.hc 0 false 7,D.v K.s,D.v (K.i IntKind.i64),D.v (K.i IntKind.i64),D.v (K.i IntKind.i64),D.v (K.c (AV.sym 0)),D.v (K.i IntKind.i64),D.v (K.i IntKind.i64),D.vec 0 6] (zm [62,61] s3 ai ab ag ao ae ac) λ b3 s4 O z I q U H=>br b3 (dD true [D.v (K.i IntKind.i64),D.hc 0 false 7,D.v K.s,D.v (K.i IntKind.i64),D.v (K.i IntKind.i64),D.v (K.i IntKind.i64),D.v (K.c (AV.sym 0)),D.v (K.i IntKind.i64),D.v (K.i IntKind.i64),D.vec 0 6] (zAZ s4 O z I q U H) λ C s5 B E t M j Q=>zr s5 B E t M j (Int.ofNat 4) a [] C (Int.negSucc 0) (Int.negSucc 0) Q) (dD true [D.v K.b,D.hc 0 false 7,D.v K.s,D.v (K.i IntKind.i64),D.v (K.i IntKind.i64),D.v (K.i IntKind.i64),D.v (K.c (AV.sym 0)),D.v (K.i IntKind.i64),D.v (K.i IntKind.i64),D.vec 0 6] (zm [60,61] s4 O z I q U H) λ b4 s5 C B E t M Q=>br b4 (dD true [D.v (K.i IntKind.i64),D.hc 0 false 7,D.v K.s,D.v (K.i IntKind.i64),D.v (K.i IntKind.i64),D.v (K.i IntKind.i64),D.v (K.c (AV.sym 0)),D.v (K.i IntKind.i64),D.v (K.i IntKind.i64),D.vec 0 6] (zAZ s5 C B E t M Q) λ j s6 A n27 G V k F=>zr s6 A n27 G V k (Int.ofNat 5) a [] j (Int.negSucc 0) (Int.negSucc 0) F) (dD true [D.v K.b,D.hc 0 false 7,D.v K.s,D.v (K.i IntKind.i64),D.v (K.i IntKind.i64),D.v (K.i IntKind.i64),D.v (K.c (AV.sym 0)),D.v (K.i IntKind.i64),D.v (K.i IntKind.i64),D.vec 0 6] (zm [61] s5 C B E t M Q) λ b5 s6 j A n27 G V F=>br b5 (dD true [D.v K.s,D.hc 0 false 7,D.v K.s,D.v (K.i IntKind.i64),D.v (K.i IntKind.i64),D.v (K.i IntKind.i64),D.v (K.c (AV.sym 0)),D.v (K.i IntKind.i64),D.v (K.i IntKind.i64),D.vec 0 6] (zBr s6 j A n27 G V F) λ s7 s8 k J S u R T=>zr s8 k J S u R (Int.ofNat 2) a s7 (Int.ofNat 0) (Int.negSucc 0) (Int.negSucc 0) T) (dD true [D.v K.b,D.hc 0 false 7,D.v K.s,D.v (K.i IntKind.i64),D.v (K.i IntKind.i64),D.v (K.i IntKind.i64),D.v (K.c (AV.sym 0)),D.v (K.i IntKind.i64),D.v (K.i IntKind.i64),D.vec 0 6] (zm [33] s6 j A n27 G V F) λ b6 s7 k J S u R T=>br b6 (zAi true s7 k J S u R (Int.ofNat 6) a [] (Int.ofNat 0) (Int.negSucc 0) (Int.negSucc 0) T) (dD true [D.v K.b,D.hc 0 false 7,D.v K.s,D.v (K.i IntKind.i64),D.v (K.i IntKind.i64),D.v (K.i IntKind.i64),D.v (K.c (AV.sym 0)),D.v (K.i IntKind.i64),D.v (K.i IntKind.i64),D.vec 0 6] (zm [62] s7 k J S u R T) λ b7 s8 ad af al ak aj aa=>br b7 (zAi true s8 ad af al ak aj (Int.ofNat 6) a [] (Int.ofNat 0) (Int.negSucc 0) (Int.negSucc 0) aa) (dD true [D.v K.b,D.hc 0 false 7,D.v K.s,D.v (K.i IntKind.i64),D.v (K.i IntKind.i64),D.v (K.i IntKind.i64),D.v (K.c (AV.sym 0)),D.v (K.i IntKind.i64),D.v (K.i IntKind.i64),D.vec 0 6] (zm [60] s8 ad af al ak aj aa) λ b8 s9 ar aq au ay ax aw=>zAi b8 s9 ar aq au ay ax (Int.ofNat 6) a [] (Int.ofNat 0) (Int.negSucc 0) (Int.negSucc 0) aw)))))))) (OutA s l dp n (if 64<n+1 then .error (3,i0) else zEo s (sk s i) n a)):=λ x Y W post=>by
  have X:∀{r},zEo s (sk s i) n a=r->∀v,Res3 s l dp n x r v->OutA s l dp n (if 64<n+1 then .error (3,i0) else zEo s (sk s i) n a) v:=λ h v hv=>by rw [h];exact post _ v hv
  refine zCc hs x [33,61] i hi _ (λ h d=>Wp.if (λ _=>?_) λ h=>by cases h) λ n1=>Wp.if (λ h=>by cases h) λ _=>?_
  ·have h:=pfx2.1 h;refine (zTH hs h8 x (sk s i+2) n _ 3 a d Y W hl g).mono (X ?_)
   unfold zEo;rw [if_neg (by rw [h.1];decide),if_pos h]
  refine zCc hs x [62,61] (sk s i) hk _ (λ h d=>Wp.if (λ _=>?_) λ h=>by cases h) λ n2=>Wp.if (λ h=>by cases h) λ _=>?_
  ·rw [zBL] at h d ⊢;have h:=pfx2.1 h;refine (zTI hs x (sk s i+2) n _ 4 a d Y W hl g).mono (X ?_)
   unfold zEo;rw [if_neg (by rw [h.1];decide),if_neg (npf2 hs n1),if_pos h]
  rw [zBL] at n2 ⊢;refine zCc hs x [60,61] (sk s i) hk _ (λ h d=>Wp.if (λ _=>?_) λ h=>by cases h) λ n3=>Wp.if (λ h=>by cases h) λ _=>?_
  ·rw [zBL] at h d ⊢;have h:=pfx2.1 h;refine (zTI hs x (sk s i+2) n _ 5 a d Y W hl g).mono (X ?_)
   unfold zEo;rw [if_neg (by rw [h.1];decide),if_neg (npf2 hs n1),if_neg (npf2 hs n2),if_pos h]
  rw [zBL] at n3 ⊢;refine zCc hs x [61] (sk s i) hk _ (λ h d=>Wp.if (λ _=>?_) λ h=>by cases h) λ n4=>Wp.if (λ h=>by cases h) λ _=>?_
  ·rw [zBL] at h d ⊢;have h:=pfx1.1 h;refine (zTH hs h8 x (sk s i+1) n _ 2 a d Y W hl g).mono (X ?_)
   unfold zEo;rw [if_pos h]
  rw [zBL] at n4 ⊢;have hS:zEo s (sk s i) n a=if s[sk s i]? = some 33\/s[sk s i]? = some 62\/s[sk s i]? = some 60 then .error (5,Int.ofNat (sk s i+1)) else .ok (sk s i,n+1,.leaf 6 a [] 0):=by
   unfold zEo;rw [if_neg (npf1 hs n4),if_neg (npf2 hs n1),if_neg (npf2 hs n2),if_neg (npf2 hs n3)]
  refine zCc hs x [33] (sk s i) hk _ (λ h d=>Wp.if (λ _=>?_) λ h=>by cases h) λ n5=>Wp.if (λ h=>by cases h) λ _=>?_
  ·rw [zBL] at h d ⊢;have h:=pfx1.1 h;exact (zLp hs x true (sk s i+1) n _ a d Y W g _ ⟨λ _=>by rw [hS,if_pos (.inl h)],λ h=>by cases h⟩).mono (X rfl)
  rw [zBL] at n5 ⊢;refine zCc hs x [62] (sk s i) hk _ (λ h d=>Wp.if (λ _=>?_) λ h=>by cases h) λ n6=>Wp.if (λ h=>by cases h) λ _=>?_
  ·rw [zBL] at h d ⊢;have h:=pfx1.1 h;exact (zLp hs x true (sk s i+1) n _ a d Y W g _ ⟨λ _=>by rw [hS,if_pos (.inr (.inl h))],λ h=>by cases h⟩).mono (X rfl)
  rw [zBL] at n6 ⊢;refine zCc hs x [60] (sk s i) hk _ (λ h d=>?_) λ n7=>?_
  ·rw [zBL] at h d ⊢;have h:=pfx1.1 h;exact (zLp hs x true (sk s i+1) n _ a d Y W g _ ⟨λ _=>by rw [hS,if_pos (.inr (.inr h))],λ h=>by cases h⟩).mono (X rfl)
  ·rw [zBL] at n7 ⊢;exact (zLp hs x false (sk s i) n _ a hk Y W g _ ⟨λ h=>(by cases h),λ _=>by rw [hS,if_neg (by rintro (h | h | h);exact npf1 hs n5 h;exact npf1 hs n6 h;exact npf1 hs n7 h)]⟩).mono (X rfl)
 by_cases ah:64<n+1
 ·rw [if_pos (show (64:Int)<Int.ofNat (n+1) by rw [qr];omega),FA.qt rfl]
  exact key ⟨3,i0⟩ (λ _=>rfl) (.inr (fa3 _)) λ r v hv=>by rw [if_pos ah];exact .inl ⟨fa3 _,hv.1 (fa3 _)⟩
 ·rw [if_neg (show ¬(64:Int)<Int.ofNat (n+1) by rw [qr];omega)]
  exact key ⟨0,0⟩ (λ _=>rfl) (.inl (by omega)) λ r v hv=>by rw [if_neg ah];exact hv.2 rfl
end
end Go.Proofs.YtdeeimaahdgeaaaGreatDoor.spec
namespace Go.Proofs.YtdeeimaahdgeaaaGreatDoor.spec
open Go Go.Sy
variable [MX]
section
variable {s:List Nat} {l:List AV} {dp:Int} (hs:s.length<=65536) (h8:∀c∈s,c<256)
include hs h8
theorem zRe {i:Nat} (d:i<s.length):zEk (Int.ofNat s[i])=some (.bool (isAt wrdB s i)):=by
 rw [zA d];exact zRc _ (h8 _ (Qq d))
theorem zYS (i n:Nat) (I:i<=s.length) (U:n<=64) (hl:l.length<=n):Wp (zEs s (Int.ofNat i) dp (Int.ofNat n) 0 0 l) (OutA s l dp n (zDy s i n)):=by
 have G:l.length<=64:=by omega
 have X:=zBY namB s i I;have t:i+min 24 (rn namB s i)<=s.length:=by omega
 have k:∀{j:Nat},j<=s.length->Wp (dD true [D.v (K.qc 0),D.hc 0 false 7,D.v K.s,D.v (K.i IntKind.i64),D.v (K.i IntKind.i64),D.v (K.i IntKind.i64),D.v (K.c (AV.sym 0)),D.v (K.i IntKind.i64),D.v (K.i IntKind.i64),D.vec 0 6] (zE (Int.ofNat 5) (Int.ofNat j) s (Int.ofNat j) dp (Int.ofNat n) 0 0 l) λ O M n6 S T Q F=>some (AV.int IntKind.i64 (Int.negSucc 0),[(0,HO.cells false [AV.str O,AV.int IntKind.i64 M,AV.int IntKind.i64 n6,AV.int IntKind.i64 S,AV.sym 0,AV.int IntKind.i64 T,AV.int IntKind.i64 Q])],[(0,VI.vec 6 F)])) (OutA s l dp n (.error (5,Int.ofNat j))):=λ{j} V=>by
  refine adU (zES ⟨0,0⟩ dp (Int.ofNat n) l 5 _ _) ?_
  rw [FA.qt rfl];exact Wp.mk (.inl ⟨fa5 _,_,_,_,_,_,V,rfl⟩)
 have J:∀b:Bool,b=isAt wrdB s (i+min 24 (rn namB s i))->isAt lowB s i=true->(isAt wrdB s (i+min 24 (rn namB s i))=false->cutS s i (i+min 24 (rn namB s i))≠[97,110,121])->Wp (zC8 (Int.ofNat i) (cutS s i (i+min 24 (rn namB s i))) b s (Int.ofNat (i+min 24 (rn namB s i))) dp (Int.ofNat n) 0 0 l) (OutA s l dp n (zDy s i n)):=λ b hb d q=>by
  rw [zKU];unfold zDy;rw [if_neg (by rw [d];decide)]
  refine Wp.if (λ h=>?_) λ h=>?_
  ·rw [if_pos (by rw [←hb];exact h)]
   exact k t
  ·rw [if_neg (by rw [←hb,h];decide),if_neg (q (by rw [←hb];exact h))]
   exact zVG hs h8 _ _ n _ t U hl
 have W:isAt lowB s i=true->(isAt wrdB s (i+min 24 (rn namB s i))=false->cutS s i (i+min 24 (rn namB s i))≠[97,110,121])->Wp (zEV (Int.ofNat i) (cutS s i (i+min 24 (rn namB s i))) s (Int.ofNat (i+min 24 (rn namB s i))) dp (Int.ofNat n) 0 0 l) (OutA s l dp n (zDy s i n)):=λ d q=>by
  rw [zKV];refine Wp.lt (λ g=>Wp.bd (R:=λ c=>c=s[i+min 24 (rn namB s i)]) ⟨_,zAw g,rfl⟩ λ c hc=>?_) λ r=>J _ (zBp r).symm d q
  subst hc;exact qk_b (zRe hs h8 g) (J _ rfl d q)
 have E:∀b:Bool,b=decide (cutS s i (i+min 24 (rn namB s i))=[97,110,121]/\isAt wrdB s (i+min 24 (rn namB s i))=false)->isAt lowB s i=true->Wp (zCe (Int.ofNat i) (cutS s i (i+min 24 (rn namB s i))) b s (Int.ofNat (i+min 24 (rn namB s i))) dp (Int.ofNat n) 0 0 l) (OutA s l dp n (zDy s i n)):=λ b hb d=>by
  rw [zKZ];refine Wp.if (λ h=>adU (zL4 ⟨0,0⟩ dp (Int.ofNat n) l _ _) ?_) λ h=>?_
  ·rw [h] at hb;obtain ⟨u,B⟩:=QS hb.symm;unfold zDy;rw [if_neg (show ¬isAt lowB s i=false by rw [d];decide),if_neg (show ¬isAt wrdB s (i+min 24 (rn namB s i))=true by rw [B];decide),zc (by omega)]
   by_cases z:64<n+1
   ·rw [if_pos (show (64:Int)<Int.ofNat (n+1) by rw [qr];omega),if_pos z,FA.qt rfl]
    exact adI (zEq ⟨3,Int.ofNat i⟩ dp _ l _ _ _ _ _ _ _ (fa3 _)) (Wp.mk (.inl ⟨fa3 _,_,_,_,_,_,t,rfl⟩))
   ·rw [if_neg (show ¬(64:Int)<Int.ofNat (n+1) by rw [qr];omega),if_neg z,if_pos u]
    refine adI (zE5 ⟨0,0⟩ dp _ l _ _ _ _ _ _ _ rfl G) (Wp.mk ?_)
    show _=outA (.int .i64 (Int.ofNat (l.length+(RT.leaf 1 [] [] 0).size-1))) s _ _ _ _ _
    rw [zGa];rfl
  ·rw [h] at hb;have hb:=Qr hb.symm;exact W d λ u B=>hb ⟨B,u⟩
 have C:∀b:Bool,b=!isAt lowB s i->Wp (zCf (Int.ofNat i) b s (Int.ofNat i) dp (Int.ofNat n) 0 0 l) (OutA s l dp n (zDy s i n)):=λ b hb=>by
  rw [zKX];refine Wp.if (λ h=>?_) λ h=>?_
  ·have d:isAt lowB s i=false:=by rw [h] at hb;simpa using hb
   unfold zDy;rw [if_pos d];exact k I
  ·have d:isAt lowB s i=true:=by rw [h] at hb;simpa using hb
   rw [zKW];refine adS (zUl hs ⟨0,0⟩ dp (Int.ofNat n) l 24 (by decide) i I) ?_
   rw [zK];refine Wp.ite (λ A=>Wp.lt (λ g=>Wp.bd (R:=λ c=>c=s[i+min 24 (rn namB s i)]) ⟨_,zAw g,rfl⟩ λ c hc=>?_) λ r=>E _ ?_ d) λ A=>E _ ?_ d
   ·subst hc;refine qk_b (zRe hs h8 g) (E _ ?_ d)
    cases isAt wrdB s (i+min 24 (rn namB s i)) <;> simp [A]
   ·rw [zBp r];simp [A]
   ·simp [A]
 rw [zMg];refine Wp.if (λ h=>C _ ?_) λ h=>?_
 ·have h:i=s.length:=beqN.1 h;rw [zBp (by omega)];rfl
 ·have h:i≠s.length:=zBh.1 h;have g:i<s.length:=by omega
  refine Wp.bd (R:=λ c=>c=s[i]) ⟨_,zAw g,rfl⟩ λ c hc=>Wp.ite (λ u=>C _ ?_) λ u=>Wp.bd (R:=λ c=>c=s[i]) ⟨_,zAw g,rfl⟩ λ c2 H=>C _ ?_
  ·subst hc;rw [zA g];unfold lowB;rw [QG (by rw [qr] at u;omega)];rfl
  ·subst hc;subst H;rw [zA g];unfold lowB;rw [←decide_not];exact decide_eq_decide.2 (by rw [qr] at u ⊢;omega)
end
theorem zX3 {s:List Nat} (hs:s.length<=65536) {x:FA} (hx:x.ok=false) {l:List AV} {dp n:Int} {d i:Nat} (g:i<=s.length):Wp (zAn (d+1) s (Int.ofNat i) dp n x.e x.f l) (zDt s x):=by
 rw [zFm];refine adU (zCL hs x dp n l i g) (Wp.if (λ _=>Wp.mk ⟨_,_,_,_,_,zAM g,rfl⟩) λ h=>?_)
 exfalso
 have h:(match x.ok with | true=>false | false=>true)=false:=by
  revert h
  unfold FA.ok;cases (x.e==0&&x.f==0) <;> intro h <;> first | rfl | exact h
 rw [hx] at h;cases h
abbrev PreA (s:List Nat) (l:List AV) (i n:Nat):Prop:=i<=s.length/\n<=64/\l.length<=n
def ANot (s:List Nat) (g:Nat):Prop:=∀(d:Nat) (l:List AV) (i n:Nat),5*g+1<=d->PreA s l i n->Wp (zAn d s (Int.ofNat i) (Int.ofNat (32-g)) (Int.ofNat n) 0 0 l) (OutA s l (Int.ofNat (32-g)) n (oneM s g i n))
def APN (s:List Nat) (g:Nat):Prop:=∀(d:Nat) (l:List AV) (i n:Nat),5*g+2<=d->PreA s l i n->Wp (zAz d [38] 8 s (Int.ofNat i) (Int.ofNat (32-g)) (Int.ofNat n) 0 0 l) (OutA s l (Int.ofNat (32-g)) n (andM s g i n))
def AAnd (s:List Nat) (g:Nat):Prop:=∀(d:Nat) (l:List AV) (i n:Nat),5*g+3<=d->PreA s l i n->Wp (zBI d s (Int.ofNat i) (Int.ofNat (32-g)) (Int.ofNat n) 0 0 l) (OutA s l (Int.ofNat (32-g)) n (andM s g i n))
def APA (s:List Nat) (g:Nat):Prop:=∀(d:Nat) (l:List AV) (i n:Nat),5*g+4<=d->PreA s l i n->Wp (zBw d [124] 9 s (Int.ofNat i) (Int.ofNat (32-g)) (Int.ofNat n) 0 0 l) (OutA s l (Int.ofNat (32-g)) n (orM s g i n))
def AOr (s:List Nat) (g:Nat):Prop:=∀(d:Nat) (l:List AV) (i n:Nat),5*g+5<=d->PreA s l i n->Wp (zFj d s (Int.ofNat i) (Int.ofNat (32-g)) (Int.ofNat n) 0 0 l) (OutA s l (Int.ofNat (32-g)) n (orM s g i n))
theorem OutA.cases {s:List Nat} {l:List AV} {dp:Int} {n0:Nat} {r:RE (Nat×Nat×RT)} {v:AV×Heap×Vecs} (k:OutA s l dp n0 r v):
  (∃i n t,r=.ok (i,n,t)/\v=outA (.int .i64 (Int.ofNat (l.length+t.size-1))) s (Int.ofNat i) dp (Int.ofNat n) ⟨0,0⟩ (l++t.fl l.length)) ∨
  (∃e f,r=.error (e,f)/\(FA.mk e f).ok=false/\∃(y:Int) (i:Nat) (h n:Int) (d:List AV),i<=s.length/\v=outA (.int .i64 y) s (Int.ofNat i) h n ⟨e,f⟩ d) ∨
  (∃(y:Int) (i n':Nat) (d:List AV),r=.error (5,Int.ofNat i)/\isAt wrdB s i=true/\n'<=64/\d.length+n0<=l.length+n'/\v=outA (.int .i64 y) s (Int.ofNat i) dp (Int.ofNat n') ⟨0,0⟩ d):=by
 cases r with
 | ok r=>obtain ⟨i,n,t⟩:=r;exact .inl ⟨i,n,t,rfl,k⟩
 | error e=>
  obtain ⟨e,f⟩:=e;rcases k with ⟨j,g⟩ | ⟨u,y,i,n',d,j,g,z,q,A⟩
  ·exact .inr (.inl ⟨e,f,rfl,j,g⟩)
  ·subst u;subst j;exact .inr (.inr ⟨y,i,n',d,rfl,g,z,q,A⟩)
theorem zP1 {s:List Nat} {x:FA} (hx:x.ok=false) {l:List AV} {dp n left:Int} {d N:Nat} {i:Nat} (g:i<=s.length) {t:List Nat} {k:Int}:Wp (zG d (N+1) t k left s (Int.ofNat i) dp n x.e x.f l) (zDt s x):=by
 rw [zAQ];refine Wp.if (λ h=>?_) λ _=>Wp.mk ⟨_,_,_,_,_,g,rfl⟩
 exfalso
 have h:x.ok=true:=h;rw [hx] at h;cases h
theorem zTJ {s:List Nat} (hs:s.length<=65536) {l:List AV} {dp n left:Int} {d N:Nat} {i c:Nat} {k:Int} (j:isAt wrdB s i=true) (hc:wrdB c=false):zG d (N+1) [c] k left s (Int.ofNat i) dp n 0 0 l=some (outA (.int .i64 left) s (Int.ofNat i) dp n ⟨0,0⟩ l):=by
 have q:=zIS j;have g:=zJ9 (zKc j);refine zi ?_
 rw [zAQ];refine Wp.if (λ _=>adU (zCL hs ⟨0,0⟩ dp n l i (by omega)) ?_) λ h=>by cases h
 rw [g];refine zCc hs ⟨0,0⟩ [c] i (by omega) n (λ h=>?_) λ _=>Wp.if (λ _=>Wp.mk (by rw [g])) λ h=>by cases h
 rw [g,zO8 j hc] at h;cases h
theorem zX4 {s:List Nat} (hs:s.length<=65536) {g:Nat} (h1:ANot s g) (E:∀{x:FA},x.ok=false->∀{l:List AV} {dp n:Int} {d i:Nat},1<=d->i<=s.length->Wp (zAn d s (Int.ofNat i) dp n x.e x.f l) (zDt s x)) {d:Nat} (M:5*g+1<=d) (l:List AV) (n0:Nat):∀(N q i n:Nat) (t:RT),n<=64->65<=n+q->q<N->l.length+t.size<=n->t.size+n0<=n->i<=s.length →
  Wp (zG d N [38] 8 (Int.ofNat (l.length+t.size-1)) s (Int.ofNat i) (Int.ofNat (32-g)) (Int.ofNat n) 0 0 (l++t.fl l.length)) (OutA s l (Int.ofNat (32-g)) n0 (zHf (oneM s g) s 38 8 q i n t)):=by
 intro N
 induction N with
 | zero=>intro q i n t _ _ h;omega
 | succ N W=>
  intro q i n t Y hm hN hl X K;obtain ⟨q,rfl⟩:∃k,q=k+1:=⟨q-1,by omega⟩
  obtain ⟨N,rfl⟩:∃k,N=k+1:=⟨N-1,by omega⟩
  have Q:=zAM K;rw [zAQ,zHf];refine Wp.if (λ _=>adU (zCL hs ⟨0,0⟩ _ (Int.ofNat n) _ i K) (zCc hs ⟨0,0⟩ [38] (sk s i) Q _ (λ h j=>Wp.if (λ h=>by cases h) λ _=>?_) λ h=>Wp.if (λ _=>?_) λ h=>by cases h)) λ h=>by cases h
  ·rw [zBL] at h j ⊢;have h:=pfx1.1 h;have j:sk s i+1<=s.length:=j;rw [if_pos h];refine adU (zL4 ⟨0,0⟩ _ (Int.ofNat n) _ _ _) ?_
   rw [zc (by omega)]
   by_cases H:64<n+1
   ·rw [if_pos (show (64:Int)<Int.ofNat (n+1) by rw [qr];omega),if_pos H,FA.qt rfl]
    obtain ⟨v,r,y,G,B,z,F,A,rfl⟩:=E (x:=⟨3,Int.ofNat (sk s i)⟩) (fa3 _) (l:=l++t.fl l.length) (dp:=Int.ofNat (32-g)) (n:=Int.ofNat (n+1)) (d:=d) (by omega) j
    refine adI r (adI (zEq ⟨3,Int.ofNat (sk s i)⟩ B z F _ _ _ _ _ _ _ (fa3 _)) ((zP1 (x:=⟨3,Int.ofNat (sk s i)⟩) (fa3 _) A).mono λ v r=>.inl ⟨fa3 _,r⟩))
   ·rw [if_neg (show ¬(64:Int)<Int.ofNat (n+1) by rw [qr];omega),if_neg H]
    have O:(l++t.fl l.length).length=l.length+t.size:=by rw [QH,RT.fl_length]
    obtain ⟨v,r,T⟩:=h1 d (l++t.fl l.length) (sk s i+1) (n+1) M ⟨j,by omega,by omega⟩
    rcases T.cases with ⟨G,z,u,D,rfl⟩ | ⟨e,f,D,C,y,G,B,z,F,A,rfl⟩ | ⟨y,G,z,F,D,J,I,U,rfl⟩
    ·rw [D];obtain ⟨g1,g2,g3,g4,g5⟩:=zIU s g _ _ _ _ _ j (by omega) D
     have S:(RT.two 8 t u).size=t.size+u.size+1:=rfl;have V:(l++t.fl l.length++u.fl (l++t.fl l.length).length).length=l.length+(RT.two 8 t u).size-1:=by
      rw [QH,RT.fl_length,QH,RT.fl_length];omega
     refine adI r (adI (zE5 ⟨0,0⟩ _ _ _ _ _ _ _ _ _ _ rfl (by omega)) ?_)
     have R:=zPX l 8 t u;rw [V];have:=W q G z (.two 8 t u) g4 (by omega) (by omega) (by omega) (by omega) g2
     rw [←R] at this;exact this
    ·rw [D];refine adI r (adI (zEq ⟨e,f⟩ B z F _ _ _ _ _ _ _ C) ((zP1 (x:=⟨e,f⟩) C A).mono λ v r=>.inl ⟨C,r⟩))
    ·rw [D];refine adI r (adI (zE5 ⟨0,0⟩ _ _ _ _ _ _ _ _ _ _ rfl (by omega)) ⟨_,zTJ hs J (by decide),.inr ⟨rfl,_,G,z,_,rfl,J,I,?_,rfl⟩⟩)
     rw [QH];show F.length+1+n0<=_
     omega
  ·rw [zBL] at h ⊢;rw [if_neg (npf1 hs h)];exact Wp.mk rfl
theorem pn_P {s:List Nat} (hs:s.length<=65536) {g:Nat} (h1:ANot s g) (j:∀{x:FA},x.ok=false->∀{l:List AV} {dp n:Int} {d i:Nat},1<=d->i<=s.length->Wp (zAn d s (Int.ofNat i) dp n x.e x.f l) (zDt s x)):APN s g:=by
 intro d l i n K D;obtain ⟨d,rfl⟩:∃k,d=k+1:=⟨d-1,by omega⟩
 rw [zCJ];obtain ⟨v,r,I⟩:=h1 d l i n (by omega) D
 obtain ⟨H,F,M⟩:=D;show Wp _ (OutA s l _ n (zEp (oneM s g) s 38 8 i n))
 unfold zEp;rw [show FUEL=1180591620717411303423+1 from zER]
 rcases I.cases with ⟨z,t,u,h,rfl⟩ | ⟨e,f,h,q,y,z,G,t,J,A,rfl⟩ | ⟨y,z,t,J,h,E,B,C,rfl⟩
 ·rw [h];obtain ⟨g1,g2,g3,g4,g5⟩:=zIU s g _ _ _ _ _ H F h;exact adI r (zX4 hs h1 j (by omega) l n _ 65 z t u g4 (by omega) (by omega) (by omega) (by omega) g2)
 ·rw [h];exact adI r ((zP1 (x:=⟨e,f⟩) q A).mono λ v r=>.inl ⟨q,r⟩)
 ·rw [h];exact adI r ⟨_,zTJ hs E (by decide),.inr ⟨rfl,_,z,t,_,rfl,E,B,C,rfl⟩⟩
theorem zUn {s:List Nat} (hs:s.length<=65536) (g:∀{x:FA},x.ok=false->∀{l:List AV} {dp n:Int} {d i:Nat},1<=d->i<=s.length->Wp (zAn d s (Int.ofNat i) dp n x.e x.f l) (zDt s x)) {x:FA} (hx:x.ok=false) {t:List Nat} {k:Int} {l:List AV} {dp n:Int} {d i:Nat} (u:1+1<=d) (q:i<=s.length):Wp (zAz d t k s (Int.ofNat i) dp n x.e x.f l) (zDt s x):=by
 obtain ⟨d,rfl⟩:∃k,d=k+1:=⟨d-1,by omega⟩
 rw [zCJ];obtain ⟨v,r,y,B,j,z,A,h,rfl⟩:=g hx (l:=l) (dp:=dp) (n:=n) (d:=d) (by omega) q
 rw [show FUEL=1180591620717411303423+1 from zER]
 exact adI r (zP1 hx h)
theorem zTK {s:List Nat} {g:Nat} (h:APN s g):AAnd s g:=by
 intro d l i n H C;obtain ⟨d,rfl⟩:∃k,d=k+1:=⟨d-1,by omega⟩
 rw [zIi];obtain ⟨v,q,j⟩:=h d l i n (by omega) C
 rcases j.cases with ⟨z,r,u,t,rfl⟩ | ⟨e,f,t,F,y,z,B,r,G,A,rfl⟩ | ⟨y,z,r,G,t,I,D,E,rfl⟩
 ·exact adI q (Wp.mk j)
 ·exact adI q (Wp.mk j)
 ·exact adI q (Wp.mk j)
theorem zMF {s:List Nat} (hs:s.length<=65536):∀{x:FA},x.ok=false->∀{l:List AV} {dp n:Int} {d i:Nat},1<=d->i<=s.length->Wp (zAn d s (Int.ofNat i) dp n x.e x.f l) (zDt s x):=by
 intro x h l dp n d i j g;obtain ⟨d,rfl⟩:∃k,d=k+1:=⟨d-1,by omega⟩
 exact zX3 hs h g
theorem zSC {s:List Nat} (hs:s.length<=65536):∀{x:FA},x.ok=false->∀{l:List AV} {dp n:Int} {d i:Nat},3<=d->i<=s.length->Wp (zBI d s (Int.ofNat i) dp n x.e x.f l) (zDt s x):=by
 intro x q l dp n d i u j;obtain ⟨d,rfl⟩:∃k,d=k+1:=⟨d-1,by omega⟩
 rw [zIi];obtain ⟨v,r,y,B,h,z,A,g,rfl⟩:=zUn hs (zMF hs) q (t:=[38]) (k:=Int.ofNat 8) (l:=l) (dp:=dp) (n:=n) (d:=d) (by omega) j
 exact adI r (Wp.mk ⟨_,_,_,_,_,g,rfl⟩)
theorem zSD {s:List Nat} {x:FA} (hx:x.ok=false) {l:List AV} {dp n left:Int} {d N:Nat} {i:Nat} (g:i<=s.length) {t:List Nat} {k:Int}:Wp (zF d (N+1) t k left s (Int.ofNat i) dp n x.e x.f l) (zDt s x):=by
 rw [zAP];refine Wp.if (λ h=>?_) λ _=>Wp.mk ⟨_,_,_,_,_,g,rfl⟩
 exfalso
 have h:x.ok=true:=h;rw [hx] at h;cases h
theorem zTL {s:List Nat} (hs:s.length<=65536) {l:List AV} {dp n left:Int} {d N:Nat} {i c:Nat} {k:Int} (j:isAt wrdB s i=true) (hc:wrdB c=false):zF d (N+1) [c] k left s (Int.ofNat i) dp n 0 0 l=some (outA (.int .i64 left) s (Int.ofNat i) dp n ⟨0,0⟩ l):=by
 have q:=zIS j;have g:=zJ9 (zKc j);refine zi ?_
 rw [zAP];refine Wp.if (λ _=>adU (zCL hs ⟨0,0⟩ dp n l i (by omega)) ?_) λ h=>by cases h
 rw [g];refine zCc hs ⟨0,0⟩ [c] i (by omega) n (λ h=>?_) λ _=>Wp.if (λ _=>Wp.mk (by rw [g])) λ h=>by cases h
 rw [g,zO8 j hc] at h;cases h
theorem zX5 {s:List Nat} (hs:s.length<=65536) {g:Nat} (h1:AAnd s g) (E:∀{x:FA},x.ok=false->∀{l:List AV} {dp n:Int} {d i:Nat},3<=d->i<=s.length->Wp (zBI d s (Int.ofNat i) dp n x.e x.f l) (zDt s x)) {d:Nat} (M:5*g+3<=d) (l:List AV) (n0:Nat):∀(N q i n:Nat) (t:RT),n<=64->65<=n+q->q<N->l.length+t.size<=n->t.size+n0<=n->i<=s.length →
  Wp (zF d N [124] 9 (Int.ofNat (l.length+t.size-1)) s (Int.ofNat i) (Int.ofNat (32-g)) (Int.ofNat n) 0 0 (l++t.fl l.length)) (OutA s l (Int.ofNat (32-g)) n0 (zHf (andM s g) s 124 9 q i n t)):=by
 intro N
 induction N with
 | zero=>intro q i n t _ _ h;omega
 | succ N W=>
  intro q i n t Y hm hN hl X K;obtain ⟨q,rfl⟩:∃k,q=k+1:=⟨q-1,by omega⟩
  obtain ⟨N,rfl⟩:∃k,N=k+1:=⟨N-1,by omega⟩
  have Q:=zAM K;rw [zAP,zHf];refine Wp.if (λ _=>adU (zCL hs ⟨0,0⟩ _ (Int.ofNat n) _ i K) (zCc hs ⟨0,0⟩ [124] (sk s i) Q _ (λ h j=>Wp.if (λ h=>by cases h) λ _=>?_) λ h=>Wp.if (λ _=>?_) λ h=>by cases h)) λ h=>by cases h
  ·rw [zBL] at h j ⊢;have h:=pfx1.1 h;have j:sk s i+1<=s.length:=j;rw [if_pos h];refine adU (zL4 ⟨0,0⟩ _ (Int.ofNat n) _ _ _) ?_
   rw [zc (by omega)]
   by_cases H:64<n+1
   ·rw [if_pos (show (64:Int)<Int.ofNat (n+1) by rw [qr];omega),if_pos H,FA.qt rfl]
    obtain ⟨v,r,y,G,B,z,F,A,rfl⟩:=E (x:=⟨3,Int.ofNat (sk s i)⟩) (fa3 _) (l:=l++t.fl l.length) (dp:=Int.ofNat (32-g)) (n:=Int.ofNat (n+1)) (d:=d) (by omega) j
    refine adI r (adI (zEq ⟨3,Int.ofNat (sk s i)⟩ B z F _ _ _ _ _ _ _ (fa3 _)) ((zSD (x:=⟨3,Int.ofNat (sk s i)⟩) (fa3 _) A).mono λ v r=>.inl ⟨fa3 _,r⟩))
   ·rw [if_neg (show ¬(64:Int)<Int.ofNat (n+1) by rw [qr];omega),if_neg H]
    have O:(l++t.fl l.length).length=l.length+t.size:=by rw [QH,RT.fl_length]
    obtain ⟨v,r,T⟩:=h1 d (l++t.fl l.length) (sk s i+1) (n+1) M ⟨j,by omega,by omega⟩
    rcases T.cases with ⟨G,z,u,D,rfl⟩ | ⟨e,f,D,C,y,G,B,z,F,A,rfl⟩ | ⟨y,G,z,F,D,J,I,U,rfl⟩
    ·rw [D];obtain ⟨g1,g2,g3,g4,g5⟩:=zL3 s g _ _ _ _ _ j (by omega) D
     have S:(RT.two 9 t u).size=t.size+u.size+1:=rfl;have V:(l++t.fl l.length++u.fl (l++t.fl l.length).length).length=l.length+(RT.two 9 t u).size-1:=by
      rw [QH,RT.fl_length,QH,RT.fl_length];omega
     refine adI r (adI (zE5 ⟨0,0⟩ _ _ _ _ _ _ _ _ _ _ rfl (by omega)) ?_)
     have R:=zPX l 9 t u;rw [V];have:=W q G z (.two 9 t u) g4 (by omega) (by omega) (by omega) (by omega) g2
     rw [←R] at this;exact this
    ·rw [D];refine adI r (adI (zEq ⟨e,f⟩ B z F _ _ _ _ _ _ _ C) ((zSD (x:=⟨e,f⟩) C A).mono λ v r=>.inl ⟨C,r⟩))
    ·rw [D];refine adI r (adI (zE5 ⟨0,0⟩ _ _ _ _ _ _ _ _ _ _ rfl (by omega)) ⟨_,zTL hs J (by decide),.inr ⟨rfl,_,G,z,_,rfl,J,I,?_,rfl⟩⟩)
     rw [QH];show F.length+1+n0<=_
     omega
  ·rw [zBL] at h ⊢;rw [if_neg (npf1 hs h)];exact Wp.mk rfl
theorem pa_P {s:List Nat} (hs:s.length<=65536) {g:Nat} (h1:AAnd s g) (j:∀{x:FA},x.ok=false->∀{l:List AV} {dp n:Int} {d i:Nat},3<=d->i<=s.length->Wp (zBI d s (Int.ofNat i) dp n x.e x.f l) (zDt s x)):APA s g:=by
 intro d l i n K D;obtain ⟨d,rfl⟩:∃k,d=k+1:=⟨d-1,by omega⟩
 rw [zFQ];obtain ⟨v,r,I⟩:=h1 d l i n (by omega) D
 obtain ⟨H,F,M⟩:=D;show Wp _ (OutA s l _ n (zEp (andM s g) s 124 9 i n))
 unfold zEp;rw [show FUEL=1180591620717411303423+1 from zER]
 rcases I.cases with ⟨z,t,u,h,rfl⟩ | ⟨e,f,h,q,y,z,G,t,J,A,rfl⟩ | ⟨y,z,t,J,h,E,B,C,rfl⟩
 ·rw [h];obtain ⟨g1,g2,g3,g4,g5⟩:=zL3 s g _ _ _ _ _ H F h;exact adI r (zX5 hs h1 j (by omega) l n _ 65 z t u g4 (by omega) (by omega) (by omega) (by omega) g2)
 ·rw [h];exact adI r ((zSD (x:=⟨e,f⟩) q A).mono λ v r=>.inl ⟨q,r⟩)
 ·rw [h];exact adI r ⟨_,zTL hs E (by decide),.inr ⟨rfl,_,z,t,_,rfl,E,B,C,rfl⟩⟩
theorem zVH {s:List Nat} {g:Nat} (h:APA s g):AOr s g:=by
 intro d l i n H C;obtain ⟨d,rfl⟩:∃k,d=k+1:=⟨d-1,by omega⟩
 rw [zM7];obtain ⟨v,q,j⟩:=h d l i n (by omega) C
 rcases j.cases with ⟨z,r,u,t,rfl⟩ | ⟨e,f,t,F,y,z,B,r,G,A,rfl⟩ | ⟨y,z,r,G,t,I,D,E,rfl⟩
 ·exact adI q (Wp.mk j)
 ·exact adI q (Wp.mk j)
 ·exact adI q (Wp.mk j)
theorem zSE {s:List Nat} (hs:s.length<=65536) (h8:∀c∈s,c<256) {l:List AV} {i n:Nat} {dp:Int} (r:PreA s l i n):Wp (dD true [D.v (K.i IntKind.i64),D.hc 0 false 7,D.v K.s,D.v (K.i IntKind.i64),D.v (K.i IntKind.i64),D.v (K.i IntKind.i64),D.v (K.c (AV.sym 0)),D.v (K.i IntKind.i64),D.v (K.i IntKind.i64),D.vec 0 6] (zEs s (Int.ofNat i) dp (Int.ofNat n) 0 0 l) λ q M t g k h j A=>some (AV.int IntKind.i64 q,[(0,HO.cells false [AV.str M,AV.int IntKind.i64 t,AV.int IntKind.i64 g,AV.int IntKind.i64 k,AV.sym 0,AV.int IntKind.i64 h,AV.int IntKind.i64 j])],[(0,VI.vec 6 A)])) (OutA s l dp n (zDy s i n)):=by
 obtain ⟨v,z,d⟩:=zYS (l:=l) (dp:=dp) hs h8 i n r.1 r.2.1 r.2.2;rcases d.cases with ⟨E,B,u,C,rfl⟩ | ⟨e,f,C,J,y,E,G,B,O,F,rfl⟩ | ⟨y,E,B,O,C,Q,H,I,rfl⟩
 ·exact adI z (Wp.mk d)
 ·exact adI z (Wp.mk d)
 ·exact adI z (Wp.mk d)
theorem zMG {s:List Nat} {l:List AV} {d:Nat} {y i dp n:Int} {x:FA} {b:Bool}:zDz d y b s i dp n x.e x.f l=some (outA (.int .i64 y) s i dp n (if b=true then x.fail 5 i else x) l):=by
 refine zi ?_
 rw [zK5];refine Wp.if (λ h=>adU (zES x dp n l 5 i i) ?_) λ h=>?_
 ·rw [zGR,if_pos h];exact Wp.mk rfl
 ·rw [zGR,if_neg (by rw [h];decide)];exact Wp.mk rfl
theorem zZj {s:List Nat} (hs:s.length<=65536) (h8:∀c∈s,c<256):∀g,g<=32->ANot s g:=by
 intro g
 induction g with
 | zero=>
  intro _ d l i n hd V;obtain ⟨d,rfl⟩:∃k,d=k+1:=⟨d-1,by omega⟩
  obtain ⟨M,J,S⟩:=V;have H:=zAM M;rw [zFm,oneM];have F:s[sk s i]? = some 33\/s[sk s i]? = some 40->∀v,zDt s ⟨3,Int.ofNat (sk s i)⟩ v->OutA s l (Int.ofNat (32-0)) n (if s[sk s i]? = some 33\/s[sk s i]? = some 40 then .error (3,Int.ofNat (sk s i)) else zDy s (sk s i) n) v:=λ h v E=>by
   rw [if_pos h];exact .inl ⟨fa3 _,E⟩
  refine adU (zCL hs ⟨0,0⟩ _ (Int.ofNat n) l i M) (Wp.if (λ h=>by cases h) λ _=>zCc hs ⟨0,0⟩ [33] (sk s i) H _ (λ h j=>Wp.if (λ _=>adB (zRd ⟨0,0⟩ _ _ l _ _ rfl) (Wp.if (λ _=>Wp.mk ?_) λ h=>by cases h)) λ h=>by cases h) λ C=>Wp.if (λ h=>by cases h) λ _=>?_)
  ·rw [zBL] at h j;refine F (.inl (pfx1.1 h)) _ ?_
   rw [FA.qt rfl];exact ⟨_,sk s (sk s i)+[33].length,_,_,_,by rw [zBL];exact j,rfl⟩
  rw [zBL] at C ⊢;refine zCc hs ⟨0,0⟩ [40] (sk s i) H _ (λ h j=>Wp.if (λ _=>adB (zRd ⟨0,0⟩ _ _ l _ _ rfl) (Wp.if (λ _=>Wp.mk ?_) λ h=>by cases h)) λ h=>by cases h) λ z=>Wp.if (λ h=>by cases h) λ _=>?_
  ·rw [zBL] at h j;refine F (.inr (pfx1.1 h)) _ ?_
   rw [FA.qt rfl];exact ⟨_,sk s (sk s i)+[40].length,_,_,_,by rw [zBL];exact j,rfl⟩
  rw [zBL] at z ⊢;rw [if_neg (by rintro (h | h);exact npf1 hs C h;exact npf1 hs z h)]
  exact zSE hs h8 ⟨H,J,S⟩
 | succ g T=>
  intro hg d l i n hd V;have T:=T (by omega)
  have Y:AOr s g:=zVH (pa_P hs (zTK (pn_P hs T (zMF hs))) (zSC hs));obtain ⟨d,rfl⟩:∃k,d=k+1:=⟨d-1,by omega⟩
  obtain ⟨M,J,S⟩:=V;have H:=zAM M;have deep:Int.ofNat (32-(g+1))+1=Int.ofNat (32-g):=by rw [qr,qr];omega
  have B:wrapx .i64 (Int.ofNat (32-g)-1)=Int.ofNat (32-(g+1)):=by rw [zL (by rw [qr];omega) (by rw [qr];omega),qr,qr];omega
  have d1:Int.ofNat (32-(g+1))+1<=32:=by rw [qr];omega
  have d0:0<=Int.ofNat (32-(g+1)):=QV _;rw [zFm,oneM];refine adU (zCL hs ⟨0,0⟩ _ (Int.ofNat n) l i M) (Wp.if (λ h=>by cases h) λ _=>zCc hs ⟨0,0⟩ [33] (sk s i) H _ (λ h j=>Wp.if (λ _=>?_) λ h=>by cases h) λ C=>Wp.if (λ h=>by cases h) λ _=>?_)
  ·rw [zBL] at h j ⊢;have h:=pfx1.1 h;have j:sk s i+1<=s.length:=j;rw [if_pos h];refine adB (zTG ⟨0,0⟩ _ _ l _ _ d1 d0) (Wp.if (λ h=>by cases h) λ _=>adU (zL4 ⟨0,0⟩ _ (Int.ofNat n) _ _ _) ?_)
   rw [zc (by omega),deep]
   by_cases R:64<n+1
   ·rw [if_pos (show (64:Int)<Int.ofNat (n+1) by rw [qr];omega),if_pos R,FA.qt rfl]
    obtain ⟨v,E,y,q,K,t,I,A,rfl⟩:=zMF hs (x:=⟨3,Int.ofNat (sk s i)⟩) (fa3 _) (l:=l) (dp:=Int.ofNat (32-g)) (n:=Int.ofNat (n+1)) (d:=d) (by omega) j
    exact adI E (adI (zEq ⟨3,Int.ofNat (sk s i)⟩ _ t I _ _ _ _ _ _ _ (fa3 _)) (Wp.mk (.inl ⟨fa3 _,_,_,_,_,_,A,rfl⟩)))
   ·rw [if_neg (show ¬(64:Int)<Int.ofNat (n+1) by rw [qr];omega),if_neg R]
    obtain ⟨v,E,W⟩:=T d l (sk s i+1) (n+1) (by omega) ⟨j,by omega,by omega⟩
    rcases W.cases with ⟨q,t,u,r,rfl⟩ | ⟨e,f,r,D,y,q,K,t,I,A,rfl⟩ | ⟨y,q,t,I,r,O,Q,X,rfl⟩
    ·rw [r];obtain ⟨g1,g2,g3,g4,g5⟩:=zIU s g _ _ _ _ _ j (by omega) r
     refine adI E ?_
     rw [B];refine adI (zE5 ⟨0,0⟩ _ _ _ _ _ _ _ _ _ _ rfl (by rw [QH,RT.fl_length];omega)) (Wp.mk ?_)
     have e1:l++u.fl l.length++[nd6 (Int.ofNat 7) [] [] (Int.ofNat 0) (Int.ofNat (l.length+u.size-1)) (Int.negSucc 0)]=l++(RT.not u).fl l.length:=by rw [RT.fl,Qt];rfl
     have e2:(l++u.fl l.length).length=l.length+(RT.not u).size-1:=by
      rw [QH,RT.fl_length];show _=l.length+(u.size+1)-1
      omega
     show outA (.int .i64 (Int.ofNat (l++u.fl l.length).length)) s (Int.ofNat q) _ (Int.ofNat t) ⟨0,0⟩ (l++u.fl l.length++[nd6 (Int.ofNat 7) [] [] (Int.ofNat 0) (Int.ofNat (l.length+u.size-1)) (Int.negSucc 0)])=_
     rw [e1,e2]
    ·rw [r];refine adI E ?_
     exact adI (zEq ⟨e,f⟩ _ t I _ _ _ _ _ _ _ D) (Wp.mk (.inl ⟨D,_,_,_,_,_,A,rfl⟩))
    ·rw [r];refine adI E ?_
     rw [B];refine adI (zE5 ⟨0,0⟩ _ _ _ _ _ _ _ _ _ _ rfl (by omega)) (Wp.mk (.inr ⟨rfl,_,q,t,_,rfl,O,Q,?_,rfl⟩))
     rw [QH];show I.length+1+n<=_
     omega
  rw [zBL] at C ⊢;rw [if_neg (npf1 hs C)];refine zCc hs ⟨0,0⟩ [40] (sk s i) H _ (λ h j=>Wp.if (λ _=>?_) λ h=>by cases h) λ z=>Wp.if (λ h=>by cases h) λ _=>?_
  ·rw [zBL] at h j ⊢;have h:=pfx1.1 h;have j:sk s i+1<=s.length:=j;rw [if_pos h];refine adB (zTG ⟨0,0⟩ _ _ l _ _ d1 d0) (Wp.if (λ h=>by cases h) λ _=>?_)
   rw [deep];obtain ⟨v,E,W⟩:=Y d l (sk s i+1) n (by omega) ⟨j,J,S⟩
   show Wp _ (OutA s l _ n (zL1 s (orM s g (sk s i+1) n)))
   rcases W.cases with ⟨q,t,u,r,rfl⟩ | ⟨e,f,r,D,y,q,K,t,I,A,rfl⟩ | ⟨y,q,t,I,r,O,Q,X,rfl⟩
   ·rw [r];obtain ⟨g1,g2,g3,g4,g5⟩:=zNQ s g _ _ _ _ _ j J r;have U:=zAM g2;show Wp _ (OutA s l _ n (if s[sk s q]? = some 41 then .ok (sk s q+1,t,u) else .error (5,Int.ofNat (sk s q))))
    refine adI E (Wp.if (λ _=>?_) λ h=>by cases h)
    rw [B];refine zCc hs ⟨0,0⟩ [41] q g2 _ (λ h j=>?_) λ h=>?_
    ·rw [if_pos (pfx1.1 h)];refine ⟨_,zMG (x:=⟨0,0⟩),?_⟩
     rfl
    ·rw [if_neg (npf1 hs h)];refine ⟨_,zMG (x:=⟨0,0⟩),.inl ⟨fa5 _,?_⟩⟩
     rw [if_pos (show (!false)=true from rfl),FA.qt rfl]
     exact ⟨_,_,_,_,_,U,rfl⟩
   ·rw [r];refine adI E (Wp.if (λ h=>?_) λ _=>⟨_,zMG (x:=⟨e,f⟩),.inl ⟨D,_,_,_,_,_,A,rfl⟩⟩)
    exfalso
    have h:(FA.mk e f).ok=true:=h;rw [D] at h;cases h
   ·rw [r];have aa:=zIS O;have G:=zJ9 (zKc O);refine adI E (Wp.if (λ _=>?_) λ h=>by cases h)
    refine zCc hs ⟨0,0⟩ [41] q (by omega) _ (λ h=>?_) λ _=>⟨_,zMG (x:=⟨0,0⟩),.inl ⟨fa5 _,?_⟩⟩
    ·rw [G,zO8 O (by decide)] at h;cases h
    ·rw [G];rw [if_pos (show (!false)=true from rfl),FA.qt rfl]
     exact ⟨_,q,_,_,_,by omega,rfl⟩
  ·rw [zBL] at z ⊢;rw [if_neg (npf1 hs z)];exact zSE hs h8 ⟨H,J,S⟩
theorem or_A {s:List Nat} (hs:s.length<=65536) (h8:∀c∈s,c<256):AOr s 32:=zVH (pa_P hs (zTK (pn_P hs (zZj hs h8 32 (QA _)) (zMF hs))) (zSC hs))
end Go.Proofs.YtdeeimaahdgeaaaGreatDoor.spec
