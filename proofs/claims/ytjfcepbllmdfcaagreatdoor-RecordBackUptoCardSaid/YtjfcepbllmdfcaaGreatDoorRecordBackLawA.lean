/- THE LAW OF THE LEAN FUNCTIONS, IN PLAIN LEAN: whatever the arguments, it says true. No condition. -/
import Derived.Test.YtjfcepbllmdfcaaGreatDoorRecordBackS2
import Derived.Test.YtjfcepbllmdfcaaGreatDoorRows
set_option linter.unusedVariables false
set_option linter.unusedSimpArgs false
set_option linter.unusedSectionVars false
open Int(ofNat)
theorem Wa:type_of% @Go.Sy.Wp.if:=@Go.Sy.Wp.if
theorem Wb:type_of% @Go.Sy.Wp.mk:=@Go.Sy.Wp.mk
theorem Wc:type_of% @Go.Sy.Wp.ite:=@Go.Sy.Wp.ite
theorem We:type_of% @Go.Sy.Wp.gd:=@Go.Sy.Wp.gd
namespace Go.Proofs.YtjfcepbllmdfcaaGreatDoor.record
open Go Go.Sy
variable[MX]
theorem zZr:zDe=some (.bool true):=by
 unfold zDe gV;rw[zH0]
 kernel_rfl
end Go.Proofs.YtjfcepbllmdfcaaGreatDoor.record
namespace Go.Proofs.YtjfcepbllmdfcaaGreatDoor.record
open Go Go.Sy
theorem zgq{β:Type}{wk:Bool}{f:(Bool)->Option β}(x1:Bool):dK wk [K.b] (some (.bool x1)) f=f x1:=rfl
theorem zAn{β:Type}{wk:Bool}{P:β->Prop}{f:(Bool)->Option β}{o:Option (AV)}{R:(Bool)->Prop}(h:Wp o λv=>∃(x1:Bool),v=(.bool x1)/\R x1)(k:∀(x1:Bool),R x1->Wp (f x1) P):Wp (dK wk [K.b] o f) P:=by
 obtain⟨v,rfl,h⟩:=h;obtain⟨x1,rfl,h⟩:=h;exact k x1 h
theorem qk_b{β:Type}{wk:Bool}{P:β->Prop}{f:(Bool)->Option β}{o:Option (AV)}{x1:Bool}(h:o=some (.bool x1))(k:Wp (f x1) P):Wp (dK wk [K.b] o f) P:=by
 subst h;exact k
theorem zTx{β:Type}{wk:Bool}{f:(Int)->Option β}(x1:Int):dK wk [K.i .i64] (some (.int .i64 x1)) f=f x1:=rfl
theorem zV3{β:Type}{wk:Bool}{P:β->Prop}{f:(Int)->Option β}{o:Option (AV)}{R:(Int)->Prop}(h:Wp o λv=>∃(x1:Int),v=(.int .i64 x1)/\R x1)(k:∀(x1:Int),R x1->Wp (f x1) P):Wp (dK wk [K.i .i64] o f) P:=by
 obtain⟨v,rfl,h⟩:=h;obtain⟨x1,rfl,h⟩:=h;exact k x1 h
theorem zCE{β:Type}{wk:Bool}{P:β->Prop}{f:(Int)->Option β}{o:Option (AV)}{x1:Int}(h:o=some (.int .i64 x1))(k:Wp (f x1) P):Wp (dK wk [K.i .i64] o f) P:=by
 subst h;exact k
theorem zV4{β:Type}{wk:Bool}{P:β->Prop}{f:(Int)->Option β}{o:Option (AV)}{x1:Int}(h:o=some (.int .u8 x1))(k:Wp (f x1) P):Wp (dK wk [K.i .u8] o f) P:=by
 subst h;exact k
theorem zDl{β:Type}{wk:Bool}{f:JE->Option β}(x1:JE):dK wk [K.l 1] (some (.qf 1 x1)) f=f x1:=rfl
theorem zXS{β:Type}{wk:Bool}{P:β->Prop}{f:JE->Option β}{o:Option (AV)}{x1:JE}(h:o=some (.qf 1 x1))(k:Wp (f x1) P):Wp (dK wk [K.l 1] o f) P:=by
 subst h;exact k
theorem zOn{β:Type}{wk:Bool}{P:β->Prop}{f:JV->Option β}{o:Option (AV)}{R:JV->Prop}(h:Wp o λv=>∃(x1:JV),v=(.str x1)/\R x1)(k:∀(x1:JV),R x1->Wp (f x1) P):Wp (dK wk [K.s] o f) P:=by
 obtain⟨v,rfl,h⟩:=h;obtain⟨x1,rfl,h⟩:=h;exact k x1 h
theorem qk_s{β:Type}{wk:Bool}{P:β->Prop}{f:JV->Option β}{o:Option (AV)}{x1:JV}(h:o=some (.str x1))(k:Wp (f x1) P):Wp (dK wk [K.s] o f) P:=by
 subst h;exact k
theorem zZs{β:Type}{wk:Bool}{P:β->Prop}{f:(Int)->(Int)->(Int)->(Int)->Option β}{o:Option (AV)}{x2:Int}{x3:Int}{x4:Int}{x5:Int}(h:o=some (.agg [.int .i64 x2,.int .i64 x3,.int .i64 x4,.int .i64 x5]))(k:Wp (f x2 x3 x4 x5) P):Wp (dK wk yX o f) P:=by
 subst h;exact k
theorem zcN{β:Type}{wk:Bool}{f:JV->JV->Option β}(x2:JV)(x3:JV):dK wk y4 (some (.agg [.str x2,.str x3])) f=f x2 x3:=rfl
theorem zcO{β:Type}{wk:Bool}{P:β->Prop}{f:JV->JV->Option β}{o:Option (AV)}{x2:JV}{x3:JV}(h:o=some (.agg [.str x2,.str x3]))(k:Wp (f x2 x3) P):Wp (dK wk y4 o f) P:=by
 subst h;exact k
theorem zFc{β:Type}{wk:Bool}{P:β->Prop}{f:(Int)->JV->JV->(Int)->(Int)->(Int)->Option β}{o:Option (AV)}{x2:Int}{x3:JV}{x4:JV}{x5:Int}{x6:Int}{x7:Int}(h:o=some (.agg [.int .i64 x2,.str x3,.str x4,.int .i64 x5,.int .i64 x6,.int .i64 x7]))(k:Wp (f x2 x3 x4 x5 x6 x7) P):Wp (dK wk yI o f) P:=by
 subst h;exact k
theorem zWT{β:Type}{wk:Bool}{P:β->Prop}{f:(Int)->(AV)->Option β}{o:Option (AV)}{x2:Int}{x3:AV}(h:o=some (.qd [.int .i64 x2,x3]))(k:Wp (f x2 x3) P):Wp (dK wk [K.qd 2,K.i .i64,K.av] o f) P:=by
 subst h;exact k
theorem zUk{β:Type}{wk:Bool}{f:JE->(Int)->(Int)->Option β}(x3:JE)(x5:Int)(x6:Int):dK wk y7 (some (.qd [.agg [.qf 6 x3],.agg [.int .i64 x5,.int .i64 x6]])) f=f x3 x5 x6:=rfl
theorem zUl{β:Type}{wk:Bool}{P:β->Prop}{f:JE->(Int)->(Int)->Option β}{o:Option (AV)}{x3:JE}{x5:Int}{x6:Int}(h:o=some (.qd [.agg [.qf 6 x3],.agg [.int .i64 x5,.int .i64 x6]]))(k:Wp (f x3 x5 x6) P):Wp (dK wk y7 o f) P:=by
 subst h;exact k
theorem zWU{β:Type}{wk:Bool}{P:β->Prop}{f:JE->Option β}{o:Option (AV)}{x2:JE}(h:o=some (.agg [.qf 6 x2]))(k:Wp (f x2) P):Wp (dK wk y5 o f) P:=by
 subst h;exact k
theorem zcP{β:Type}{wk:Bool}{f:JV->(Int)->Option β}(x2:JV)(x3:Int):dK wk y6 (some (.qd [.str x2,.int .i64 x3])) f=f x2 x3:=rfl
theorem zWV{β:Type}{wk:Bool}{P:β->Prop}{f:JV->(Int)->Option β}{o:Option (AV)}{R:JV->(Int)->Prop}(h:Wp o λv=>∃(x2:JV) (x3:Int),v=(.qd [.str x2,.int .i64 x3])/\R x2 x3)(k:∀(x2:JV)(x3:Int),R x2 x3->Wp (f x2 x3) P):Wp (dK wk y6 o f) P:=by
 obtain⟨v,rfl,h⟩:=h;obtain⟨x2,x3,rfl,h⟩:=h;exact k x2 x3 h
theorem zcQ{β:Type}{wk:Bool}{P:β->Prop}{f:JV->(Int)->Option β}{o:Option (AV)}{x2:JV}{x3:Int}(h:o=some (.qd [.str x2,.int .i64 x3]))(k:Wp (f x2 x3) P):Wp (dK wk y6 o f) P:=by
 subst h;exact k
theorem zBM{β:Type}{wk:Bool}{P:β->Prop}{f:JV->JV->(Bool)->Option β}{o:Option (AV)}{x2:JV}{x3:JV}{x4:Bool}(h:o=some (.qd [.str x2,.str x3,.bool x4]))(k:Wp (f x2 x3 x4) P):Wp (dK wk yab o f) P:=by
 subst h;exact k
theorem zXT{β:Type}{wk:Bool}{P:β->Prop}{f:JV->(Int)->(Int)->Option β}{o:Option (AV)}{x3:JV}{x4:Int}{x5:Int}(h:o=some (.qd [.agg [.str x3,.int .i64 x4],.int .i64 x5]))(k:Wp (f x3 x4 x5) P):Wp (dK wk yae o f) P:=by
 subst h;exact k
theorem zaM{β:Type}{wk:Bool}{f:JE->(Int)->Option β}(x2:JE)(x3:Int):dK wk yaa (some (.qd [.qf 1 x2,.int .i64 x3])) f=f x2 x3:=rfl
theorem zTb{β:Type}{wk:Bool}{f:JV->(Int)->Option β}(x2:JV)(x3:Int):dK wk yW (some (.agg [.str x2,.int .i64 x3])) f=f x2 x3:=rfl
theorem zBy{β:Type}{wk:Bool}{P:β->Prop}{f:JV->(Int)->Option β}{o:Option (AV)}{x2:JV}{x3:Int}(h:o=some (.agg [.str x2,.int .i64 x3]))(k:Wp (f x2 x3) P):Wp (dK wk yW o f) P:=by
 subst h;exact k
theorem zAd{β:Type}{wk:Bool}{P:β->Prop}{f:(Int)->JV->(Int)->(Int)->(Int)->(Int)->(Int)->JE->(Int)->JV->JV->(Int)->(Int)->(Int)->JV->(Int)->(Int)->(Int)->(Int)->JE->(Int)->JV->(Int)->JV->(Int)->JV->JV->(Int)->(Int)->(Int)->(Bool)->Option β}{o:Option (AV)}{x2:Int}{x3:JV}{x4:Int}{x5:Int}{x6:Int}{x7:Int}{x8:Int}{x9:JE}{x10:Int}{x11:JV}{x12:JV}{x13:Int}{x14:Int}{x15:Int}{x16:JV}{x17:Int}{x18:Int}{x19:Int}{x20:Int}{x21:JE}{x22:Int}{x23:JV}{x24:Int}{x25:JV}{x26:Int}{x27:JV}{x28:JV}{x29:Int}{x30:Int}{x31:Int}{x32:Bool}(h:o=some (.agg [.int .i64 x2,.str x3,.int .i64 x4,.int .i64 x5,.int .i64 x6,.int .i64 x7,.int .i64 x8,.qf 2 x9,.int .i64 x10,.str x11,.str x12,.int .i64 x13,.int .i64 x14,.int .i64 x15,.str x16,.int .i64 x17,.int .i64 x18,.int .i64 x19,.int .i64 x20,.qf 6 x21,.int .i64 x22,.str x23,.int .i64 x24,.str x25,.int .i64 x26,.str x27,.str x28,.int .u64 x29,.int .u64 x30,.int .i64 x31,.bool x32]))(k:Wp (f x2 x3 x4 x5 x6 x7 x8 x9 x10 x11 x12 x13 x14 x15 x16 x17 x18 x19 x20 x21 x22 x23 x24 x25 x26 x27 x28 x29 x30 x31 x32) P):Wp (dK wk yw o f) P:=by
 subst h;exact k
theorem zH6{β:Type}{wk:Bool}{f:JE->Option β}(x2:JE):dD wk [.v (.c (AV.sym 0)),.vec 0 1] (some (AV.sym 0,[],[(0,.vec 1 x2)])) f=f x2:=rfl
theorem zWn{β:Type}{wk:Bool}{P:β->Prop}{f:JE->Option β}{o:Option (AV×Heap×Vecs)}{x3:JE}(h:o=some (.qd [],[(0,.cells false [AV.sym 0])],[(0,.vec 1 x3)]))(k:Wp (f x3) P):Wp (dD wk [.v (.qd 0),.hc 0 false 1,.v (.c (AV.sym 0)),.vec 0 1] o f) P:=by
 subst h;exact k
theorem zO{β:Type}{wk:Bool}{P:β->Prop}{f:(Bool)->(Int)->JV->JV->(Int)->(Int)->(Int)->JV->(Int)->(Int)->(Int)->(Int)->JE->(Int)->JV->Option β}{o:Option (AV×Heap×Vecs)}{x1:Bool}{x2:Int}{x3:JV}{x4:JV}{x5:Int}{x6:Int}{x7:Int}{x8:JV}{x9:Int}{x10:Int}{x11:Int}{x12:Int}{x13:JE}{x14:Int}{x15:JV}(h:o=some (.bool x1,[(0,.cells false [.int .i64 x2,.str x3,.str x4,.int .i64 x5,.int .i64 x6,.int .i64 x7,.str x8,.int .i64 x9,.int .i64 x10,.int .i64 x11,.int .i64 x12,.qf 6 x13,.int .i64 x14,.str x15])],[]))(k:Wp (f x1 x2 x3 x4 x5 x6 x7 x8 x9 x10 x11 x12 x13 x14 x15) P):Wp (dD wk yv o f) P:=by
 subst h;exact k
theorem zFX{β:Type}{wk:Bool}{P:β->Prop}{f:Option β}{o:Option (AV×Heap×Vecs)}(h:o=some (AV.sym 0,[],[(0,.mp [(AV.str [117,115,101,114],AV.func (Fn.func 146) [] []),(AV.str [98,97,110,100],AV.func (Fn.func 147) [] []),(AV.str [99,111,117,110,116],AV.func (Fn.func 148) [] []),(AV.str [100,111,119,110],AV.func (Fn.func 149) [] []),(AV.str [105,110],AV.func (Fn.func 150) [] []),(AV.str [99,112,117],AV.func (Fn.func 151) [] []),(AV.str [114,97,109],AV.func (Fn.func 152) [] []),(AV.str [100,105,115,107],AV.func (Fn.func 153) [] []),(AV.str [112,111,114,116,115],AV.func (Fn.func 154) [] []),(AV.str [114,117,108,101],AV.func (Fn.func 155) [] []),(AV.str [98,97,116,99,104],AV.func (Fn.func 156) [] [])])]))(k:Wp (f) P):Wp (dD wk [.v (.c (AV.sym 0)),.uT 0 [(AV.str [117,115,101,114],AV.func (Fn.func 146) [] []),(AV.str [98,97,110,100],AV.func (Fn.func 147) [] []),(AV.str [99,111,117,110,116],AV.func (Fn.func 148) [] []),(AV.str [100,111,119,110],AV.func (Fn.func 149) [] []),(AV.str [105,110],AV.func (Fn.func 150) [] []),(AV.str [99,112,117],AV.func (Fn.func 151) [] []),(AV.str [114,97,109],AV.func (Fn.func 152) [] []),(AV.str [100,105,115,107],AV.func (Fn.func 153) [] []),(AV.str [112,111,114,116,115],AV.func (Fn.func 154) [] []),(AV.str [114,117,108,101],AV.func (Fn.func 155) [] []),(AV.str [98,97,116,99,104],AV.func (Fn.func 156) [] [])]] o f) P:=by
 subst h;exact k
variable[MX]
def zDv(c:Nat):Prop:=32<=c/\c<=126/\c≠34/\c≠35
instance:DecidablePred zDv:=λc=>by unfold zDv;infer_instance
abbrev okS(s:JV):Prop:=∀c∈s,zDv c
theorem zNN{k:Nat}(h:k<10):(UInt8.ofNat (48+k)).toNat=48+k:=by
 rw[UInt8.toNat_ofNat'];omega
theorem zZt{k:Nat}(h:k<10):zDv (48+k):=⟨by omega,by omega,by omega,by omega⟩
theorem zT7(n:Nat):okS ((Lib.decDigits n).map UInt8.toNat):=by
 induction n using Nat.strongRecOn with
 |ind n j=>
  rw[Lib.decDigits];by_cases h:n<10
  .rw[dif_pos h];intro c hc;simp only[QZ,List.map_nil,zNN h,QU]at hc;subst hc;exact zZt h
  .rw[dif_neg h,Qu];intro c hc;rcases QI.1 hc with hc|hc
   .exact j (n / 10) (by omega) c hc
   .have g:=Nat.mod_lt n (by decide:0<10)
    simp only[QZ,List.map_nil,zNN g,QU]at hc;subst hc;exact zZt g
theorem zXU(n:Int)(h0:-9223372036854775808<=n)(h1:n<=9223372036854775807):∃s,zB8 n (ofNat 10)=some (.str s)/\s.length<=21/\okS s:=by
 refine⟨(Lib.itoa n).map UInt8.toNat,?_,?_,?_⟩
 .show(match((ofNat 10==10)&&decide (-9223372036854775808<=n/\n<=9223372036854775807))with|true=>some (AV.str ((Lib.itoa n).map UInt8.toNat))|false=>none)=_
  rw[Qc (⟨h0,h1⟩:-9223372036854775808<=n/\n<=9223372036854775807)];rfl
 .rw[QG];exact Lib.itoa_length_le n h0 h1
 .unfold Lib.itoa;split
  .intro c hc;rcases QJ.1 hc with rfl|hc
   .decide
   .exact zT7 _ c hc
  .exact zT7 _
theorem zVv(s:JV)(h:s.length<=1000):∃n v,zF2 s (ofNat 10) (ofNat 64)=some (.qd [.int .i64 n,v])/\-9223372036854775808<=n/\n<=9223372036854775807:=by
 have g:∀l,-9223372036854775808<=Lib.intSat 64 l/\Lib.intSat 64 l<=9223372036854775807:=λl=>by unfold Lib.intSat;split<;>decide
 have e:Nat.ble s.length 281474976710656=true:=by rw[Qr];omega
 have e2:(Nat.ble s.length 281474976710656&&(ofNat 10==10&&ofNat 64==64))=true:=by rw[e];rfl
 unfold zF2 zEA zUA;simp only[e2];cases hp:Lib.parseIntB 64 (s.map UInt8.ofNat)with
 |ok v=>
  have hb:=Lib.parseIntB_bounds hp;exact⟨_,_,rfl,hb.1,Int.le_of_lt_add_one hb.2⟩
 |range=>exact⟨_,_,rfl,g _⟩
 |_=>exact⟨_,_,rfl,by decide,by decide⟩
def okA(a b c d:Int):Prop:=(0<=a/\a<=1099511627776)/\(0<=b/\b<=1099511627776)/\(0<=c/\c<=1099511627776)/\(0<=d/\d<=1099511627776)
instance(a b c d:Int):Decidable (okA a b c d):=by unfold okA;infer_instance
theorem zD2{β:Type}{o:Option β}{x:β}(h:Wp o λv=>v=x):o=some x:=let ⟨_,e,h⟩:=h;h▸e
theorem zGp(a b c d:Int):zDa a b c d=some (.int .i64 (if okA a b c d then 0 else 2)):=by
 refine zD2 ?_
 rw[zOD];refine zZs (zOC ..) ?_
 repeat' first|refine Wc (λ_=>?_) (λ_=>?_)|refine Wb ?_
 all_goals (first|rw[if_neg (by unfold okA;omega)];rfl|rw[if_pos (by unfold okA;omega)];rfl)
def zbK(a b c d g l c' j:Int):Prop:=a<=g/\b<=l/\c<=c'/\d<=j
instance(a b c d a' b' c' d':Int):Decidable (zbK a b c d a' b' c' d'):=by unfold zbK;infer_instance
def tx(m:Nat)(s:JV):Prop:=s.length<=m/\okS s
theorem zEb(m:Nat):tx m []:=⟨QN _,λc hc=>by cases hc⟩
theorem zcR{a b:JV}(h:okS a)(k:okS b):okS (a++b):=λc hc=>(QI.1 hc).elim (h c) (k c)
theorem zRr{s:JV}{a j:Nat}(l:j<s.length)(x:a<=j)(h:okS ((s.take j).drop a))(hc:zDv s[j]):okS ((s.take (j+1)).drop a):=by
 have e:s.take (j+1)=s.take j++[s[j]]:=by simp
 rw[e,List.drop_append_of_le_length (by rw[Qj];omega)]
 exact zcR h λc g=>by rw[QU.1 g];exact hc
abbrev bytes(s:JV):JE:=s.map λb=>AV.int .u8 (.ofNat b)
abbrev isB(v:AV):Prop:=∃b,v=.bool b/\True
theorem zBn(s:JV):Wp (zq s) isB:=by
 have loop:∀(n i:Nat),i<=s.length->s.length-i<n->s.length<=16->Wp (zEe n (ofNat (bytes s).length) (ofNat i) (bytes s)) isB:=by
  intro n
  induction n with
  |zero=>intro i _ h;omega
  |succ n x=>
   intro i hi z j;rw[zKb];rw[QG];refine Wp.lt (λh=>zKv h (zV4 (zPA h) ?_)) λ_=>Wb ⟨_,rfl,trivial⟩
   have next:∀b,Wp (zAK n (ofNat s.length) (ofNat i) b (bytes s)) isB:=λb=>by
    rw[zKa];refine Wa (λ_=>Wb ⟨_,rfl,trivial⟩) λ_=>?_
    rw[zm (by omega)]
    have:=x (i+1) h (by omega) j
    rwa [QG]at this
   repeat' first|refine Wc (λ_=>?_) (λ_=>?_)|exact next _
 rw[zJf];have g:∀b,(b=true\/s.length<=16)->Wp (zCc s b) isB:=λb hb=>by
  rw[zGX];refine Wa (λ_=>Wb ⟨_,rfl,trivial⟩) λh=>?_
  rw[zKc];refine loop _ 0 (QN _) (zD ?_) ?_<;>rcases hb with hb|hb<;>first|omega|(rw[hb]at h;cases h)
 refine Wc (λ_=>g _ (.inl rfl)) λh1=>Wc (λ_=>g _ (.inl rfl)) λh2=>?_
 rw[qr]at h1 h2;have hl:0<s.length:=by omega
 have l:ixN s 0=some s[0]:=zA2 hl;rw[l];refine Wc (λ_=>g _ (.inl rfl)) λh1=>g _ (.inr (by omega))
theorem zVw{s:JV}(h:zq s=some (.bool true)):s.length<=16:=by
 rcases Nat.lt_or_ge 16 s.length with g|g
 .exfalso
  rw[zJf]at h;have h1:¬ofNat s.length<1:=by rw[qr];omega
  have h2:ofNat s.length > 16:=by rw[qr];omega
  simp only[h1,h2,decide_true,decide_false,zAs,zj,zGX]at h;cases h
 .exact g
theorem zKx(c:Int):zBP c=some (.bool (decide (48<=c/\c<=57))):=by
 rw[zSQ];refine zD2 (Wc (λh=>Wb ?_) λh=>Wb ?_)
 .congr 1;exact decide_eq_decide.2 (by omega)
 .congr 1;exact(Qd (by omega)).symm
theorem or32:∀c,c<256->IntKind.wrap IntKind.u8 ↑(BitVec.toNat (BitVec.ofInt (IntKind.bits IntKind.u8) (ofNat c) ||| BitVec.ofInt (IntKind.bits IntKind.u8) 32))>=97->IntKind.wrap IntKind.u8 ↑(BitVec.toNat (BitVec.ofInt (IntKind.bits IntKind.u8) (ofNat c) ||| BitVec.ofInt (IntKind.bits IntKind.u8) 32))<=122->zDv c:=by decide +kernel
theorem ib3:∀c,c<256->0<=Lib.indexByte ([45,95,46].map UInt8.ofNat) (UInt8.ofNat c)->zDv c:=by decide +kernel
theorem zJu(c:Nat):Wp (zCM (ofNat c)) λv=>∃b,v=.bool b/\(c<256->b=true->zDv c):=by
 rw[zRC,zRB,zKx];have hl:Wp (br (decide (IntKind.wrap IntKind.u8 ↑(BitVec.toNat (BitVec.ofInt (IntKind.bits IntKind.u8) (ofNat c) ||| BitVec.ofInt (IntKind.bits IntKind.u8) 32))>=97)) (some (AV.bool (decide (IntKind.wrap IntKind.u8 ↑(BitVec.toNat (BitVec.ofInt (IntKind.bits IntKind.u8) (ofNat c) ||| BitVec.ofInt (IntKind.bits IntKind.u8) 32))<=122)))) (some (AV.bool false))) λv=>∃b,v=.bool b/\(c<256->b=true->zDv c):=by
  refine Wc (λh=>Wb ⟨_,rfl,λh8 hb=>or32 c h8 h (Qm hb)⟩) λ_=>Wb ⟨_,rfl,λ_ h=>by cases h⟩
 refine zAn hl λb hb=>Wa (λg=>Wb ⟨_,rfl,λh8 _=>hb h8 g⟩) λ_=>qk_b rfl (Wa (λg=>Wb ⟨_,rfl,λh8 _=>?_⟩) λ_=>?_)
 .have:=Qm g;rw[qr]at this;exact⟨by omega,by omega,by omega,by omega⟩
 .refine zCE (show zBp [45,95,46] (ofNat c)=some (.int .i64 (Lib.indexByte ([45,95,46].map UInt8.ofNat) (UInt8.ofNat c)))from rfl) (Wb ⟨_,rfl,λh8 hb=>ib3 c h8 (Qm hb)⟩)
end Go.Proofs.YtjfcepbllmdfcaaGreatDoor.record
namespace Go.Proofs.YtjfcepbllmdfcaaGreatDoor.record
open Go Go.Sy
abbrev nd6(k:Int)(s t:JV)(n l r:Int):AV:=.agg [.int .i64 k,.str s,.str t,.int .i64 n,.int .i64 l,.int .i64 r]
def zRW:Nat:=4611686018427387904
def TL(es:JE)(L:Nat->Nat)(m:Nat):Prop:=∀j,j<m->∃k s t n l r,es[j]?=some (nd6 k s t n l r)/\(-9223372036854775808<=n/\n<=9223372036854775807)/\s.length+t.length+24<=L j/\L j<=zRW ∧
 (k=7->∃a:Nat,l=ofNat a/\a<j/\L a+3<=L j)/\(k=8\/k=9->∃a b:Nat,l=ofNat a/\r=ofNat b/\a<j/\b<j/\L a+L b+7<=L j)
def upd{α:Type}(f:Nat->α)(a:Nat)(v:α):Nat->α:=λj=>if j=a then v else f j
theorem zEZ{α:Type}{f:Nat->α}{a:Nat}{v:α}:upd f a v a=v:=if_pos rfl
theorem zBN{α:Type}{f:Nat->α}{a j:Nat}{v:α}(h:j≠a):upd f a v j=f j:=if_neg h
def rs(L:Nat->Nat)(c:Nat->Int):Nat->Nat
 |0=>0
 |i+1=>rs L c i+if c i=0 then L i else 0
theorem zRs{L L':Nat->Nat}{c c':Nat->Int}:∀{i:Nat},(∀j,j<i->L j=L' j)->(∀j,j<i->(c j=c' j))->rs L c i=rs L' c' i
 |0,_,_=>rfl
 |i+1,h1,h2=>by
  rw[rs,rs,zRs (λj h=>h1 j (by omega)) λj h=>h2 j (by omega),h1 i (by omega),h2 i (by omega)]
theorem zWW{L:Nat->Nat}{c:Nat->Int}{a:Nat}(h0:c a=0){v:Int}(hv:v≠0):∀{i:Nat},a<i->rs L (upd c a v) i+L a=rs L c i
 |0,h=>by omega
 |i+1,h=>by
  rw[rs,rs];by_cases e:a=i
  .subst e;rw[zEZ,if_neg hv,if_pos h0,zRs (L':=L) (c':=c) (λ_ _=>rfl) λj g=>zBN (by omega)]
   omega
  .have:=zWW (L:=L) (c:=c) h0 hv (show a<i by omega)
   rw[zBN (by omega)]
   omega
def fb:Nat->Nat->Nat->Nat
 |0,a,b=>a
 |n+1,a,b=>fb n b (a+b+1)
theorem zZu:∀(n a b:Nat),fb (n+2) a b=fb (n+1) a b+fb n a b+1
 |0,a,b=>by simp only[fb];omega
 |n+1,a,b=>by
  have:=zZu n b (a+b+1);rw[fb,fb,fb]at *;exact this
theorem zXV:∀(n a b:Nat),a<b->fb n a b<fb (n+1) a b
 |0,a,b,h=>by simp only[fb];exact h
 |n+1,a,b,h=>by
  have:=zXV n b (a+b+1) (by omega)
  rw[fb,fb]at *;exact this
def fbL(j:Nat):Nat:=100*fb j 1 2
theorem zM2{a b:Nat}(h:a<b):∀{n m:Nat},n<=m->fb n a b<=fb m a b:=by
 intro n m j
 induction m with
 |zero=>
  have:n=0:=by omega
  subst this;exact QB _
 |succ m g=>
  by_cases e:n=m+1
  .subst e;exact QB _
  .exact Qh (g (by omega)) (Qe (zXV m a b h))
theorem zcS{a j:Nat}(h:a<j):fbL a+3<=fbL j:=by
 have h1:=zXV a 1 2 (by omega)
 have h2:=zM2 (a:=1) (b:=2) (by omega) (show a+1<=j by omega)
 unfold fbL;omega
theorem zcT{a b j:Nat}(h:a<b)(h2:b<j):fbL a+fbL b+7<=fbL j:=by
 obtain⟨i,rfl⟩:∃i,j=i+2:=⟨j-2,by omega⟩
 have h0:=zZu i 1 2;have h1:=zM2 (a:=1) (b:=2) (by omega) (show a<=i by omega)
 have h2:=zM2 (a:=1) (b:=2) (by omega) (show b<=i+1 by omega)
 unfold fbL;omega
theorem zcU{j:Nat}(h:j<=64):fbL j<=zRW:=by
 have h1:=zM2 (a:=1) (b:=2) (by omega) h
 have h2:fb 64 1 2<=40000000000000000:=by decide
 unfold fbL zRW;omega
theorem zer(j:Nat):100<=fbL j:=by
 have h1:=zM2 (a:=1) (b:=2) (by omega) (show 0<=j by omega)
 have:fb 0 1 2=1:=rfl;unfold fbL;omega
variable[MX]
structure PS where
 s:JV
 i:Int
 dp:Int
 n:Int
 e:Int
 fa:Int
 l:JE
 h8:∀c∈s,c<256
abbrev zB3(v:AV)(q:PS):AV×Heap×Vecs:=(v,[(0,HO.cells false [.str q.s,.int .i64 q.i,.int .i64 q.dp,.int .i64 q.n,AV.sym 0,.int .i64 q.e,.int .i64 q.fa])],[(0,VI.vec 6 q.l)])
section
variable{β:Type}{wk:Bool}{P:β->Prop}{o:Option (AV×Heap×Vecs)}
theorem wdU{f:JV->Int->Int->Int->Int->Int->JE->Option β}{R:PS->Prop}(h:Wp o λv=>∃q,v=zB3 (.qd []) q/\R q)(k:∀q,R q->Wp (f q.s q.i q.dp q.n q.e q.fa q.l) P):Wp (dD wk [.v (.qd 0),.hc 0 false 7,.v .s,.v (.i .i64),.v (.i .i64),.v (.i .i64),.v (.c (AV.sym 0)),.v (.i .i64),.v (.i .i64),.vec 0 6] o f) P:=by
 obtain⟨v,rfl,q,rfl,h⟩:=h;exact k q h
theorem wdB{f:Bool->JV->Int->Int->Int->Int->Int->JE->Option β}{R:Bool->PS->Prop}(h:Wp o λv=>∃b q,v=zB3 (.bool b) q/\R b q)(k:∀b q,R b q->Wp (f b q.s q.i q.dp q.n q.e q.fa q.l) P):Wp (dD wk [.v .b,.hc 0 false 7,.v .s,.v (.i .i64),.v (.i .i64),.v (.i .i64),.v (.c (AV.sym 0)),.v (.i .i64),.v (.i .i64),.vec 0 6] o f) P:=by
 obtain⟨v,rfl,b,q,rfl,h⟩:=h;exact k b q h
theorem wdI{f:Int->JV->Int->Int->Int->Int->Int->JE->Option β}{R:Int->PS->Prop}(h:Wp o λv=>∃b q,v=zB3 (.int .i64 b) q/\R b q)(k:∀b q,R b q->Wp (f b q.s q.i q.dp q.n q.e q.fa q.l) P):Wp (dD wk [.v (.i .i64),.hc 0 false 7,.v .s,.v (.i .i64),.v (.i .i64),.v (.i .i64),.v (.c (AV.sym 0)),.v (.i .i64),.v (.i .i64),.vec 0 6] o f) P:=by
 obtain⟨v,rfl,b,q,rfl,h⟩:=h;exact k b q h
theorem wdS{f:JV->JV->Int->Int->Int->Int->Int->JE->Option β}{R:JV->PS->Prop}(h:Wp o λv=>∃b q,v=zB3 (.str b) q/\R b q)(k:∀b q,R b q->Wp (f b q.s q.i q.dp q.n q.e q.fa q.l) P):Wp (dD wk [.v .s,.hc 0 false 7,.v .s,.v (.i .i64),.v (.i .i64),.v (.i .i64),.v (.c (AV.sym 0)),.v (.i .i64),.v (.i .i64),.vec 0 6] o f) P:=by
 obtain⟨v,rfl,b,q,rfl,h⟩:=h;exact k b q h
end
def PS.nf(p:PS):Prop:=p.e=0/\p.fa=0
def WFn(j:Nat)(v:AV):Prop:=∃k s t n a b,v=nd6 k s t n a b/\(-9223372036854775808<=n/\n<=9223372036854775807)/\tx 24 s/\tx 32 t ∧
 (k=7->∃g:Nat,a=ofNat g/\g<j)/\(k=8\/k=9->∃g l:Nat,a=ofNat g/\b=ofNat l/\g<l/\l<j)
def WF(l:JE):Prop:=∀j v,l[j]?=some v->WFn j v
structure Inv(p:PS):Prop where
 i0:0<=p.i
 i1:p.i<=p.s.length
 w3:p.s.length<=1024
 ok:p.nf->0<=p.dp/\p.dp<=32/\(p.l.length:Int)<=p.n/\p.n<=64/\WF p.l
structure Stp(k:Int)(p q:PS):Prop where
 s:q.s=p.s
 i:p.i<=q.i
 nf:q.nf->p.nf/\q.dp=p.dp/\q.n-q.l.length=p.n-p.l.length+k/\p.l.length<=q.l.length
theorem Stp.trans{a b:Int}{p q r:PS}(h:Stp a p q)(k:Stp b q r):Stp (a+b) p r:=⟨k.s.trans h.s,Int.le_trans h.i k.i,λhr=>by
 obtain⟨q1,j,l,g⟩:=k.nf hr;obtain⟨p1,p2,p3,p4⟩:=h.nf q1;exact⟨p1,j.trans p2,by omega,Qh p4 g⟩⟩
theorem Stp.qK{p q r:PS}{b:Int}(h:Stp 0 p q)(k:Stp b q r):Stp b p r:=by have:=h.trans k;rwa [Int.zero_add]at this
theorem mv{p:PS}(h:Inv p){i:Int}(h1:p.i<=i)(h2:i<=p.s.length):Inv { p with i:=i }/\Stp 0 p { p with i:=i }:=⟨⟨Int.le_trans h.i0 h1,h2,h.w3,λg=>h.ok g⟩,rfl,h1,λg=>⟨g,rfl,by show p.n-p.l.length=_;omega,QB _⟩⟩
theorem zSB{p:PS}:(p.e==0&&p.fa==0)=true↔p.nf:=by unfold PS.nf;simp
theorem zRt{p:PS}(h:(!(p.e==0&&p.fa==0))=true):¬p.nf:=λg=>by rw[zSB.2 g]at h;cases h
theorem zM3{p:PS}(h:(!(p.e==0&&p.fa==0))=false):p.nf:=zSB.1 (by revert h;cases (p.e==0&&p.fa==0)<;>simp)
theorem zFY(p:PS)(h:Inv p):Wp (zAb p.s p.i p.dp p.n p.e p.fa p.l) λv=>∃q,v=zB3 (.qd []) q/\Inv q/\Stp 0 p q/\q.l=p.l:=by
 have w3:=h.w3;have loop:∀(n:Nat)(i:Int),p.i<=i->i<=p.s.length->p.s.length-i<n->Wp (zB5 n p.s i p.dp p.n p.e p.fa p.l) λv=>∃q,v=zB3 (.qd []) q/\Inv q/\Stp 0 p q/\q.l=p.l:=by
  intro n
  induction n with
  |zero=>intro i _ _ h;omega
  |succ n x=>
   intro i h1 h2 z;have i0:=h.i0;obtain⟨j,rfl⟩:=Int.eq_ofNat_of_zero_le (Int.le_trans i0 h1);have fin:∃q,zB3 (.qd []) { p with i:=(j:Int) }=zB3 (.qd []) q/\Inv q/\Stp 0 p q/\q.l=p.l:=⟨{ p with i:=(j:Int) },rfl,(mv h h1 h2).1,(mv h h1 h2).2,rfl⟩
   rw[zJS];refine Wp.lt (i:=j) (λg=>?_) λ_=>Wb fin
   show Wp (bd (ixN p.s (ofNat j)) _) _
   rw[zA2 g];refine Wa (λ_=>?_) λ_=>Wb fin
   rw[zJR,zI (by omega) (by omega)]
   exact x _ (by omega) (by omega) (by omega)
 rw[zLG];exact loop _ _ (Int.le_refl _) h.i1 (by have:=h.i0;have:=zD (n:=1025) (by omega);omega)
theorem zZv(t u:JV):∃b,zDm t u=some (.bool b)/\(b=true->u.length<=t.length):=by
 have:Wp (zDm t u) λv=>∃b,v=.bool b/\(b=true->u.length<=t.length):=by
  rw[zMA];refine zAn (R:=λb=>b=true->u.length<=t.length) ?_ λb hb=>Wb ⟨_,rfl,hb⟩
  rw[zGA];refine Wc (λhl=>We ⟨Ql _,hl⟩ (Wb ⟨_,rfl,λ_=>Qv.1 hl⟩)) λ_=>Wb ⟨_,rfl,λh=>(by cases h)⟩
 obtain⟨v,e,b,rfl,h⟩:=this;exact⟨b,e,h⟩
theorem zHv(p:PS)(h:Inv p)(t:JV)(j:t.length<=2):Wp (zT t p.s p.i p.dp p.n p.e p.fa p.l) λv=>∃b q,v=zB3 (.bool b) q/\Inv q/\Stp 0 p q/\(b=true->p.i+t.length<=q.i)/\q.l=p.l:=by
 rw[zOM];refine wdU (zFY p h) λq g=>We ⟨g.1.i0,g.1.i1⟩ ?_
 obtain⟨b,hb,hl⟩:=zZv (List.drop (Int.toNat q.i) (List.take (Int.toNat (ofNat q.s.length)) q.s)) t;refine qk_b hb (Wa (λhb=>Wb ⟨false,q,rfl,g.1,g.2.1,λh=>(by cases h),g.2.2⟩) λhb=>?_)
 have hb:b=true:=by simpa using hb
 have hl:=hl hb;rw[Qn,Qj]at hl;have e1:Int.toNat (ofNat q.s.length)=q.s.length:=rfl;have i0:=g.1.i0;have i1:=g.1.i1;have w3:=g.1.w3;have x:=g.2.1.i;rw[e1,Nat.min_self]at hl;rw[qr,zI (by omega) (by omega)]
 have m:=mv g.1 (i:=q.i+t.length) (by omega) (by omega)
 exact Wb ⟨true,{ q with i:=q.i+t.length },rfl,m.1,g.2.1.trans m.2,λ_=>by show _<=q.i+(t.length:Int);omega,g.2.2⟩
structure Inv0(p:PS):Prop where
 i0:0<=p.i
 i1:p.i<=p.s.length
 w3:p.s.length<=1024
theorem Inv.z{p:PS}(h:Inv p):Inv0 p:=⟨h.i0,h.i1,h.w3⟩
theorem Stp.bad{p q:PS}{k:Int}(g:q.s=p.s)(hi:p.i<=q.i)(j:¬q.nf):Stp k p q:=⟨g,hi,λh=>absurd h j⟩
theorem Inv0.bad{q:PS}(h:Inv0 q)(g:¬q.nf):Inv q:=⟨h.i0,h.i1,h.w3,λh=>absurd h g⟩
theorem zDW(e i:Int)(j:e≠0)(p:PS)(h:Inv0 p):Wp (zQ e i p.s p.i p.dp p.n p.e p.fa p.l) λv=>∃q,v=zB3 (.qd []) q/\Inv q/\q.s=p.s/\q.i=p.i/\¬q.nf:=by
 rw[zMB];refine Wa (λg=>?_) λg=>?_
 .exact Wb ⟨{ p with e:=e,fa:=i },rfl,⟨h.i0,h.i1,h.w3,λg=>absurd g.1 j⟩,rfl,rfl,λg=>j g.1⟩
 .have g:¬p.nf:=λx=>by have g:(p.e==0&&p.fa==0)=false:=g;rw[zSB.2 x]at g;cases g
  exact Wb ⟨p,rfl,h.bad g,rfl,rfl,g⟩
theorem zLb(i:Int)(p:PS)(h:Inv p):Wp (zAQ i p.s p.i p.dp p.n p.e p.fa p.l) λv=>∃q,v=zB3 (.qd []) q/\Inv q/\Stp 1 p q/\(q.nf->q.l=p.l):=by
 rw[zMC];refine Wc (λz=>?_) λx=>?_
 .refine wdU (zDW (ofNat 3) i (by decide) { p with n:=wrapx .i64 (p.n+1) } ⟨h.i0,h.i1,h.w3⟩) λq j=>Wb ⟨q,rfl,j.1,.bad j.2.1 (by rw[j.2.2.1];exact Int.le_refl _) j.2.2.2,λg=>absurd g j.2.2.2⟩
 .by_cases g:p.nf
  .obtain⟨d0,d1,A,B,w⟩:=h.ok g;rw[zI (by omega) (by omega)]at x⊢
   exact Wb ⟨{ p with n:=p.n+1 },rfl,⟨h.i0,h.i1,h.w3,λ_=>⟨d0,d1,by show(p.l.length:Int)<=p.n+1;omega,by show p.n+1<=64;omega,w⟩⟩,⟨rfl,Int.le_refl _,λ_=>⟨g,rfl,by show p.n+1-p.l.length=p.n-p.l.length+1;omega,QB _⟩⟩,λ_=>rfl⟩
  .exact Wb ⟨{ p with n:=wrapx .i64 (p.n+1) },rfl,Inv0.bad ⟨h.i0,h.i1,h.w3⟩ g,.bad rfl (Int.le_refl _) g,λh=>absurd h g⟩
structure In(b:Bool)(p q:PS):Prop where
 s:q.s=p.s
 i:q.i=p.i
 nf:q.nf->b=true/\p.nf/\q.dp=p.dp+1/\q.n=p.n/\q.l=p.l
theorem zbL(i:Int)(p:PS)(h:Inv p):Wp (zEG i p.s p.i p.dp p.n p.e p.fa p.l) λv=>∃b q,v=zB3 (.bool b) q/\Inv q/\In b p q:=by
 rw[zON];refine Wc (λz=>?_) λx=>?_
 .refine wdU (zDW (ofNat 3) i (by decide) { p with dp:=wrapx .i64 (p.dp+1) } ⟨h.i0,h.i1,h.w3⟩) λq j=>Wb ⟨false,q,rfl,j.1,j.2.1,j.2.2.1,λg=>absurd g j.2.2.2⟩
 .by_cases g:p.nf
  .obtain⟨d0,d1,A,B,w⟩:=h.ok g;rw[zI (by omega) (by omega)]at x⊢
   exact Wb ⟨true,{ p with dp:=p.dp+1 },rfl,⟨h.i0,h.i1,h.w3,λ_=>⟨by show 0<=p.dp+1;omega,by show p.dp+1<=32;omega,A,B,w⟩⟩,rfl,rfl,λ_=>⟨rfl,g,rfl,rfl,rfl⟩⟩
  .exact Wb ⟨true,{ p with dp:=wrapx .i64 (p.dp+1) },rfl,Inv0.bad ⟨h.i0,h.i1,h.w3⟩ g,rfl,rfl,λh=>absurd h g⟩
def Res(p q:PS)(x:Int):Prop:=q.nf->x=(q.l.length:Int)-1/\p.l.length<q.l.length
theorem zWX(p:PS)(h:Inv p)(k:Int)(s t:JV)(n a b:Int)(hx:p.nf->(p.l.length:Int)+1<=p.n)(z:p.nf->WFn p.l.length (nd6 k s t n a b)):Wp (zAl k s t n a b p.s p.i p.dp p.n p.e p.fa p.l) λv=>∃x q,v=zB3 (.int .i64 x) q/\Inv q/\Stp (-1) p q/\Res p q x:=by
 rw[zNe];refine Wa (λg=>?_) λg=>?_
 .have g:¬p.nf:=zRt g;exact Wb ⟨_,p,rfl,h,.bad rfl (Int.le_refl _) g,λh=>absurd h g⟩
 .have g:p.nf:=zM3 g;obtain⟨d0,d1,C,A,w⟩:=h.ok g;have hx:=hx g;have z:=z g;have hl:p.l.length<=63:=by omega
  refine We ?_ (Wb ⟨_,{ p with l:=p.l++[nd6 k s t n a b] },rfl,⟨h.i0,h.i1,h.w3,λ_=>⟨d0,d1,?_,A,?_⟩⟩,⟨rfl,Int.le_refl _,λ_=>⟨g,rfl,?_,?_⟩⟩,λ_=>⟨?_,?_⟩⟩)
  .show(p.l.length+1)*64<=zc/\p.l.length+1<=zc
   unfold zc;omega
  .show((p.l++[_]).length:Int)<=p.n
   rw[QE];show((p.l.length+1:Nat):Int)<=p.n;omega
  .intro j v hv;show WFn j v
   have hv:(p.l++[nd6 k s t n a b])[j]?=some v:=hv;by_cases B:j<p.l.length
   .rw[Qy B]at hv;exact w j v hv
   .rw[List.getElem?_append_right (by omega)]at hv
    have:j=p.l.length:=by
     by_cases e:j-p.l.length=0
     .omega
     .rw[List.getElem?_eq_none (by show 1<=_;omega)]at hv;cases hv
    subst this;rw[Nat.sub_self]at hv;cases hv;exact z
  .show p.n-((p.l++[_]).length:Int)=p.n-p.l.length+-1
   rw[QE];show p.n-((p.l.length+1:Nat):Int)=_;omega
  .show p.l.length<=(p.l++[_]).length
   rw[QE];omega
  .show wrapx .i64 (ofNat (p.l++[nd6 k s t n a b]).length-1)=((p.l++[nd6 k s t n a b]).length:Int)-1
   rw[QE];show wrapx .i64 (ofNat (p.l.length+1)-1)=((p.l.length+1:Nat):Int)-1
   rw[zCq (by omega) (by omega),qr];omega
  .show p.l.length<(p.l++[_]).length
   rw[QE];show _<p.l.length+1;omega
theorem zes(c:Nat):Wp (zEH (ofNat c)) λv=>∃b,v=.bool b/\(c<256->b=true->zDv c):=by
 rw[zLH]
 repeat' first|refine Wc (λ_=>?_) (λ_=>?_)|refine Wa (λ_=>?_) (λ_=>?_)|refine qk_b (zKx _) ?_|refine Wb ⟨_,rfl,λ_ h=>?_⟩
 all_goals simp only[qr,decide_eq_true_eq,beq_iff_eq]at *
 all_goals exact⟨by omega,by omega,by omega,by omega⟩
theorem zcV(c:Nat):Wp (zBP (ofNat c)) λv=>∃b,v=.bool b/\(c<256->b=true->zDv c):=⟨_,zKx _,_,rfl,λ_ h=>by
 have:=Qm h;rw[qr]at this;exact⟨by omega,by omega,by omega,by omega⟩⟩
theorem zWo(m:Int)(m0:0<=m)(m1:m<=1000)(p:PS)(h:Inv p):Wp (zA3 m p.s p.i p.dp p.n p.e p.fa p.l) λv=>∃t q,v=zB3 (.str t) q/\Inv q/\Stp 0 p q/\((t.length:Int)<=m/\okS t):=by
 have w3:=h.w3;have loop:∀(n:Nat)(i:Int),p.i<=i->i<=p.s.length->i-p.i<=m->p.s.length-i<n->okS (List.drop (Int.toNat p.i) (List.take (Int.toNat i) p.s))->Wp (zAe n m p.i p.s i p.dp p.n p.e p.fa p.l) λv=>∃t q,v=zB3 (.str t) q/\Inv q/\Stp 0 p q/\((t.length:Int)<=m/\okS t):=by
  intro n
  induction n with
  |zero=>intro i _ _ _ h;omega
  |succ n C=>
   intro i h1 h2 h3 D z;have i0:=h.i0;obtain⟨j,rfl⟩:=Int.eq_ofNat_of_zero_le (Int.le_trans i0 h1);have fin:Wp (gd (decide (0<=p.i/\p.i<=(j:Int)/\(j:Int)<=ofNat p.s.length)) (some (AV.str (List.drop (Int.toNat p.i) (List.take (Int.toNat (j:Int)) p.s)),[(0,HO.cells false [.str p.s,.int .i64 (j:Int),.int .i64 p.dp,.int .i64 p.n,AV.sym 0,.int .i64 p.e,.int .i64 p.fa])],[(0,VI.vec 6 p.l)]))) λv=>∃t q,v=zB3 (.str t) q/\Inv q/\Stp 0 p q/\((t.length:Int)<=m/\okS t):=by
    refine We ⟨i0,h1,h2⟩ (Wb ⟨_,{ p with i:=(j:Int) },rfl,(mv h h1 h2).1,(mv h h1 h2).2,?_,z⟩)
    rw[Qn,Qj];have e:Int.toNat (j:Int)=j:=rfl;rw[e];omega
   rw[zEm];refine Wp.lt (i:=j) (λg=>Wc (λB=>?_) λ_=>fin) λ_=>fin
   show Wp (bd (ixN p.s (ofNat j)) _) _
   rw[zA2 g];rw[zI (by omega) (by omega)]at B
   refine zAn (zes _) λb hb=>Wa (λA=>?_) λ_=>fin
   rw[zEl,zI (by omega) (by omega)]
   refine C _ (by omega) (by omega) (by omega) (by omega) ?_
   have x:j<p.s.length:=by simpa using g
   exact zRr x (by omega) z (hb (p.h8 _ (Qg x)) A)
 rw[zE3];exact loop _ _ (Int.le_refl _) h.i1 (by omega) (by have:=h.i0;have:=zD (n:=1025) (by omega);omega) (λc hc=>by rw[List.drop_eq_nil_of_le (by rw[Qj];omega)]at hc;cases hc)
theorem zWp(m:Int)(m0:0<=m)(m1:m<=1000)(p:PS)(h:Inv p):Wp (zB0 m p.s p.i p.dp p.n p.e p.fa p.l) λv=>∃t q,v=zB3 (.str t) q/\Inv q/\Stp 0 p q/\((t.length:Int)<=m/\okS t):=by
 have w3:=h.w3;have loop:∀(n:Nat)(i:Int),p.i<=i->i<=p.s.length->i-p.i<=m->p.s.length-i<n->okS (List.drop (Int.toNat p.i) (List.take (Int.toNat i) p.s))->Wp (zAD n m p.i p.s i p.dp p.n p.e p.fa p.l) λv=>∃t q,v=zB3 (.str t) q/\Inv q/\Stp 0 p q/\((t.length:Int)<=m/\okS t):=by
  intro n
  induction n with
  |zero=>intro i _ _ _ h;omega
  |succ n C=>
   intro i h1 h2 h3 D z;have i0:=h.i0;obtain⟨j,rfl⟩:=Int.eq_ofNat_of_zero_le (Int.le_trans i0 h1);have fin:Wp (gd (decide (0<=p.i/\p.i<=(j:Int)/\(j:Int)<=ofNat p.s.length)) (some (AV.str (List.drop (Int.toNat p.i) (List.take (Int.toNat (j:Int)) p.s)),[(0,HO.cells false [.str p.s,.int .i64 (j:Int),.int .i64 p.dp,.int .i64 p.n,AV.sym 0,.int .i64 p.e,.int .i64 p.fa])],[(0,VI.vec 6 p.l)]))) λv=>∃t q,v=zB3 (.str t) q/\Inv q/\Stp 0 p q/\((t.length:Int)<=m/\okS t):=by
    refine We ⟨i0,h1,h2⟩ (Wb ⟨_,{ p with i:=(j:Int) },rfl,(mv h h1 h2).1,(mv h h1 h2).2,?_,z⟩)
    rw[Qn,Qj];have e:Int.toNat (j:Int)=j:=rfl;rw[e];omega
   rw[zGC];refine Wp.lt (i:=j) (λg=>Wc (λB=>?_) λ_=>fin) λ_=>fin
   show Wp (bd (ixN p.s (ofNat j)) _) _
   rw[zA2 g];rw[zI (by omega) (by omega)]at B
   refine zAn (zJu _) λb hb=>Wa (λA=>?_) λ_=>fin
   rw[zGB,zI (by omega) (by omega)]
   refine C _ (by omega) (by omega) (by omega) (by omega) ?_
   have x:j<p.s.length:=by simpa using g
   exact zRr x (by omega) z (hb (p.h8 _ (Qg x)) A)
 rw[zHN];exact loop _ _ (Int.le_refl _) h.i1 (by omega) (by have:=h.i0;have:=zD (n:=1025) (by omega);omega) (λc hc=>by rw[List.drop_eq_nil_of_le (by rw[Qj];omega)]at hc;cases hc)
theorem zVx(m:Int)(m0:0<=m)(m1:m<=1000)(p:PS)(h:Inv p):Wp (zCf m p.s p.i p.dp p.n p.e p.fa p.l) λv=>∃t q,v=zB3 (.str t) q/\Inv q/\Stp 0 p q/\((t.length:Int)<=m/\okS t):=by
 have w3:=h.w3;have loop:∀(n:Nat)(i:Int),p.i<=i->i<=p.s.length->i-p.i<=m->p.s.length-i<n->okS (List.drop (Int.toNat p.i) (List.take (Int.toNat i) p.s))->Wp (zAG n m p.i p.s i p.dp p.n p.e p.fa p.l) λv=>∃t q,v=zB3 (.str t) q/\Inv q/\Stp 0 p q/\((t.length:Int)<=m/\okS t):=by
  intro n
  induction n with
  |zero=>intro i _ _ _ h;omega
  |succ n C=>
   intro i h1 h2 h3 D z;have i0:=h.i0;obtain⟨j,rfl⟩:=Int.eq_ofNat_of_zero_le (Int.le_trans i0 h1);have fin:Wp (gd (decide (0<=p.i/\p.i<=(j:Int)/\(j:Int)<=ofNat p.s.length)) (some (AV.str (List.drop (Int.toNat p.i) (List.take (Int.toNat (j:Int)) p.s)),[(0,HO.cells false [.str p.s,.int .i64 (j:Int),.int .i64 p.dp,.int .i64 p.n,AV.sym 0,.int .i64 p.e,.int .i64 p.fa])],[(0,VI.vec 6 p.l)]))) λv=>∃t q,v=zB3 (.str t) q/\Inv q/\Stp 0 p q/\((t.length:Int)<=m/\okS t):=by
    refine We ⟨i0,h1,h2⟩ (Wb ⟨_,{ p with i:=(j:Int) },rfl,(mv h h1 h2).1,(mv h h1 h2).2,?_,z⟩)
    rw[Qn,Qj];have e:Int.toNat (j:Int)=j:=rfl;rw[e];omega
   rw[zGZ];refine Wp.lt (i:=j) (λg=>Wc (λB=>?_) λ_=>fin) λ_=>fin
   show Wp (bd (ixN p.s (ofNat j)) _) _
   rw[zA2 g];rw[zI (by omega) (by omega)]at B
   refine zAn (zcV _) λb hb=>Wa (λA=>?_) λ_=>fin
   rw[zGY,zI (by omega) (by omega)]
   refine C _ (by omega) (by omega) (by omega) (by omega) ?_
   have x:j<p.s.length:=by simpa using g
   exact zRr x (by omega) z (hb (p.h8 _ (Qg x)) A)
 rw[zIf];exact loop _ _ (Int.le_refl _) h.i1 (by omega) (by have:=h.i0;have:=zD (n:=1025) (by omega);omega) (λc hc=>by rw[List.drop_eq_nil_of_le (by rw[Qj];omega)]at hc;cases hc)
end Go.Proofs.YtjfcepbllmdfcaaGreatDoor.record
namespace Go.Proofs.YtjfcepbllmdfcaaGreatDoor.record
open Go Go.Sy
variable[MX]
theorem zQ8(s:JV)(h:s.length<=1000):Wp (zHw s) λv=>∃n,v=.int .i64 n/\(-9223372036854775808<=n/\n<=9223372036854775807):=by
 rw[zRG];obtain⟨n,v,e,h0,h1⟩:=zVv s h;exact zWT e (Wb ⟨n,rfl,h0,h1⟩)
theorem zWY(p:PS)(h:Inv p):Wp (zDH p.s p.i p.dp p.n p.e p.fa p.l) λv=>∃t q,v=zB3 (.str t) q/\Inv q/\Stp 0 p q/\tx 32 t:=by
 rw[zNf];refine wdU (zFY p h) λq g=>wdS (zWp (ofNat 32) (by decide) (by decide) q g.1) λt r hr=>?_
 have hl:tx 32 t:=⟨by have:=hr.2.2.1;rw[qr]at this;omega,hr.2.2.2⟩
 refine Wa (λ_=>wdU (zDW _ _ (by decide) r hr.1.z) λu hu=>Wb ⟨t,u,rfl,hu.1,?_,hl⟩) λ_=>Wb ⟨t,r,rfl,hr.1,g.2.1.qK hr.2.1,hl⟩
 have:=g.2.1.qK hr.2.1;exact .bad (hu.2.1.trans this.s) (by rw[hu.2.2.1];exact this.i) hu.2.2.2
theorem zT8(p:PS)(h:Inv p):Wp (zCR p.s p.i p.dp p.n p.e p.fa p.l) λv=>∃x q,v=zB3 (.int .i64 x) q/\Inv q/\Stp 0 p q/\(-9223372036854775808<=x/\x<=9223372036854775807):=by
 rw[zLI];refine wdU (zFY p h) λq g=>wdS (zVx (ofNat 12) (by decide) (by decide) q g.1) λt r hr=>?_
 have hl:t.length<=1000:=by have:=hr.2.2.1;rw[qr]at this;omega
 refine Wa (λ_=>wdU (zDW _ _ (by decide) r hr.1.z) λu hu=>zV3 (zQ8 t hl) λx j=>Wb ⟨x,u,rfl,hu.1,?_,j⟩) λ_=>zV3 (zQ8 t hl) λx j=>Wb ⟨x,r,rfl,hr.1,g.2.1.qK hr.2.1,j⟩
 have:=g.2.1.qK hr.2.1;exact .bad (hu.2.1.trans this.s) (by rw[hu.2.2.1];exact this.i) hu.2.2.2
def zAT(p:PS)(v:AV×Heap×Vecs):Prop:=∃x q,v=zB3 (.int .i64 x) q/\Inv q/\Stp 0 p q/\Res p q x
theorem zAT.bad{p q:PS}(hi:Inv q)(l:q.s=p.s)(g:p.i<=q.i)(j:¬q.nf)(x:Int):zAT p (zB3 (.int .i64 x) q):=⟨x,q,rfl,hi,.bad l g j,λh=>absurd h j⟩
theorem Res.of{a:Int}{p q r:PS}{x:Int}(h:Stp a p q)(k:Res q r x)(j:Stp (-1) q r):Res p r x:=λhr=>by
 obtain⟨g,l⟩:=k hr;have:=(h.nf (j.nf hr).1).2.2.2;exact⟨g,by omega⟩
theorem zTc(p q:PS)(j:Inv p)(g:Inv q)(h:Stp 1 p q)(k:Int)(s t:JV)(n a b:Int)(z:q.nf->WFn q.l.length (nd6 k s t n a b)):Wp (zAl k s t n a b q.s q.i q.dp q.n q.e q.fa q.l) (zAT p):=by
 refine(zWX q g k s t n a b (λA=>?_) z).mono λv hv=>?_
 .obtain⟨p1,p2,p3,p4⟩:=h.nf A;have:=(j.ok p1).2.2.1;omega
 .obtain⟨x,r,rfl,h1,h2,h3⟩:=hv;exact⟨x,r,rfl,h1,h.trans h2,Res.of h h3 h2⟩
theorem WFn.leaf{j:Nat}{k n:Int}{s t:JV}(x:-9223372036854775808<=n/\n<=9223372036854775807)(g:tx 24 s)(l:tx 32 t)(h:k<=6):WFn j (nd6 k s t n (Int.negSucc 0) (Int.negSucc 0)):=⟨k,s,t,n,_,_,rfl,x,g,l,λe=>by omega,λe=>by omega⟩
theorem zKN(p q:PS)(A:Inv p)(z:Inv q)(h:Stp 1 p q)(k:Int)(s t:JV)(n:Int)(C:-9223372036854775808<=n/\n<=9223372036854775807)(B:tx 24 s)(g:tx 32 t)(j:k<=6):Wp (zAi q.s q.i q.dp q.n q.e q.fa k s t n (Int.negSucc 0) (Int.negSucc 0) q.l) (zAT p):=by
 rw[zLp];refine wdI (R:=λx r=>Inv r/\Stp 0 p r/\Res p r x) ((zTc p q A z h k s t n _ _ λ_=>WFn.leaf C B g j).mono λv hv=>?_) λx r hr=>Wb ⟨x,r,rfl,hr⟩
 obtain⟨x,r,rfl,hr⟩:=hv;exact⟨x,r,rfl,hr⟩
theorem zTd(p q:PS)(g:Inv p)(x:Inv q)(h:Stp 1 p q)(b:Bool)(k:Int)(s t:JV)(n:Int)(C:-9223372036854775808<=n/\n<=9223372036854775807)(A:tx 24 s)(B:tx 32 t)(j:k<=6):Wp (zBz b q.s q.i q.dp q.n q.e q.fa k s t n (Int.negSucc 0) (Int.negSucc 0) q.l) (zAT p):=by
 rw[zLq];refine Wa (λ_=>wdU (zDW _ _ (by decide) q x.z) λr hr=>zKN p r g hr.1 (.bad (hr.2.1.trans h.s) (by rw[hr.2.2.1];exact h.i) hr.2.2.2) k s t n C A B j) λ_=>zKN p q g x h k s t n C A B j
theorem z64:(-9223372036854775808:Int)<=ofNat 0/\ofNat 0<=(9223372036854775807:Int):=by decide
theorem zcW(p q:PS)(x:Inv p)(A:Inv q)(h:Stp 0 p q)(i:Int)(s:JV)(z:tx 24 s):Wp (zEf i s q.s q.i q.dp q.n q.e q.fa q.l) (zAT p):=by
 rw[zLr];refine wdU (zLb i q A) λr hr=>?_
 have g:Stp 1 p r:=h.qK hr.2.1;have j:∀{u v:PS},Stp 1 p u->Stp 0 u v->Stp 1 p v:=λa b=>a.trans b
 refine wdB (zHv r hr.1 _ (by decide)) λb u hu=>Wa (λ_=>wdS (zWY u hu.1) λt v hv=>zKN p v x hv.1 (j (j g hu.2.1) hv.2.1) _ s t _ z64 z hv.2.2 (by decide)) λ_=>?_
 have g:=j g hu.2.1;refine wdB (zHv u hu.1 _ (by decide)) λb r hr=>Wa (λ_=>wdI (zT8 r hr.1) λt v hv=>zKN p v x hv.1 (j (j g hr.2.1) hv.2.1) _ s [] _ hv.2.2 z (zEb _) (by decide)) λ_=>?_
 have g:=j g hr.2.1;refine wdB (zHv r hr.1 _ (by decide)) λb u hu=>Wa (λ_=>wdI (zT8 u hu.1) λt v hv=>zKN p v x hv.1 (j (j g hu.2.1) hv.2.1) _ s [] _ hv.2.2 z (zEb _) (by decide)) λ_=>?_
 have g:=j g hu.2.1;refine wdB (zHv u hu.1 _ (by decide)) λb r hr=>Wa (λ_=>wdS (zWY r hr.1) λt v hv=>zKN p v x hv.1 (j (j g hr.2.1) hv.2.1) _ s t _ z64 z hv.2.2 (by decide)) λ_=>?_
 have g:=j g hr.2.1;refine wdB (zHv r hr.1 _ (by decide)) λb u hu=>Wa (λ_=>zTd p u x hu.1 (j g hu.2.1) _ _ s [] _ z64 z (zEb _) (by decide)) λ_=>?_
 have g:=j g hu.2.1;refine wdB (zHv u hu.1 _ (by decide)) λb r hr=>Wa (λ_=>zTd p r x hr.1 (j g hr.2.1) _ _ s [] _ z64 z (zEb _) (by decide)) λ_=>?_
 have g:=j g hr.2.1;exact wdB (zHv r hr.1 _ (by decide)) λb u hu=>zTd p u x hu.1 (j g hu.2.1) _ _ s [] _ z64 z (zEb _) (by decide)
theorem zWZ(p q:PS)(j:Inv p)(g:Inv q)(h:Stp 0 p q)(i:Int)(s:JV)(b:Bool)(x:tx 24 s):Wp (zCH i s b q.s q.i q.dp q.n q.e q.fa q.l) (zAT p):=by
 rw[zLs];exact Wa (λ_=>wdU (zDW _ _ (by decide) q g.z) λr hr=>Wb (.bad hr.1 (hr.2.1.trans h.s) (by rw[hr.2.2.1];exact h.i) hr.2.2.2 _)) λ_=>zcW p q j g h i s x
theorem zcX(p q:PS)(z:Inv p)(j:Inv q)(h:Stp 0 p q)(i:Int)(s:JV)(A:tx 24 s):Wp (zEg i s q.s q.i q.dp q.n q.e q.fa q.l) (zAT p):=by
 rw[zLt];refine Wc (λg=>?_) λ_=>zWZ p q z j h i s _ A
 obtain⟨x,B,_⟩:=zVq j.i0 g;rw[B];exact zAn (zJu x) λb _=>zWZ p q z j h i s _ A
theorem zTe(p q:PS)(g:Inv p)(j:Inv q)(h:Stp 0 p q)(i:Int)(s:JV)(b:Bool)(z:tx 24 s):Wp (zBA i s b q.s q.i q.dp q.n q.e q.fa q.l) (zAT p):=by
 rw[zLy];refine Wa (λ_=>wdU (zLb i q j) λr hr=>wdI (R:=λx r=>Inv r/\Stp 0 p r/\Res p r x) ((zTc p r g hr.1 (h.qK hr.2.1) _ _ _ _ _ _ λ_=>WFn.leaf z64 (zEb _) (zEb _) (by decide)).mono λv hv=>?_) λx r hr=>Wb ⟨x,r,rfl,hr⟩) λ_=>zcX p q g j h i s z
 obtain⟨x,r,rfl,hr⟩:=hv;exact⟨x,r,rfl,hr⟩
theorem zcY(p:PS)(j:Inv p)(i:Int):Wp (zEh i p.s p.i p.dp p.n p.e p.fa p.l) (zAT p):=by
 rw[zLu];refine wdS (zWo (ofNat 24) (by decide) (by decide) p j) λt q g=>?_
 have hl:tx 24 t:=⟨by have:=g.2.2.1;rw[qr]at this;omega,g.2.2.2⟩
 refine Wa (λ_=>Wc (λz=>?_) λ_=>zTe p q j g.1 g.2.1 i t _ hl) λ_=>zTe p q j g.1 g.2.1 i t _ hl
 obtain⟨x,A,_⟩:=zVq g.1.i0 z;rw[A];exact zAn (zJu x) λb _=>zTe p q j g.1 g.2.1 i t _ hl
theorem zTf(p:PS)(g:Inv p)(i:Int)(b:Bool):Wp (zBB i b p.s p.i p.dp p.n p.e p.fa p.l) (zAT p):=by
 rw[zLv];exact Wa (λ_=>wdU (zDW _ _ (by decide) p g.z) λr hr=>Wb (.bad hr.1 hr.2.1 (by rw[hr.2.2.1];exact Int.le_refl _) hr.2.2.2 _)) λ_=>zcY p g i
theorem zcZ(p:PS)(g:Inv p):Wp (zF3 p.s p.i p.dp p.n p.e p.fa p.l) (zAT p):=by
 rw[zNg];refine Wa (λ_=>zTf p g _ _) λz=>?_
 have j:p.i<ofNat p.s.length:=by
  have h1:=g.i1;have h2:¬p.i=ofNat p.s.length:=by simpa using z
  rw[qr]at h2⊢;omega
 obtain⟨x,A,_⟩:=zVq g.i0 j;rw[A];exact Wa (λ_=>zTf p g _ _) λ_=>zTf p g _ _
noncomputable def PS.m(p:PS):Nat:=(Classical.propDecidable p.nf).casesOn (λ_=>0) λ_=>(33-p.dp).toNat
theorem zTy{p:PS}(h:p.nf):p.m=(33-p.dp).toNat:=by
 unfold PS.m;cases Classical.propDecidable p.nf with
 |isTrue _=>rfl
 |isFalse g=>exact absurd h g
theorem zbM{p:PS}(h:¬p.nf):p.m=0:=by
 unfold PS.m;cases Classical.propDecidable p.nf with
 |isTrue g=>exact absurd g h
 |isFalse g=>rfl
theorem Stp.m{k:Int}{p q:PS}(h:Stp k p q):q.m<=p.m:=by
 by_cases g:q.nf
 .obtain⟨h1,h2,_⟩:=h.nf g;rw[zTy g,zTy h1,h2];exact QB _
 .rw[zbM g];exact QN _
theorem Stp.m0{k:Int}{p q:PS}(h:Stp k p q)(l:Inv p){b:Bool}{r:PS}(hi:In b q r):5*r.m+5<=5*p.m\/¬p.nf:=by
 by_cases j:r.nf
 .obtain⟨_,h1,h2,_⟩:=hi.nf j;obtain⟨h3,h4,_⟩:=h.nf h1;have:=l.ok h3;rw[zTy j,zTy h3]
  left
  omega
 .by_cases g:p.nf
  .rw[zbM j,zTy g];have:=l.ok g
   left
   omega
  .exact .inr g
def SpN(d:Nat):Prop:=∀p,Inv p->5*p.m+1<=d->Wp (zCP d p.s p.i p.dp p.n p.e p.fa p.l) (zAT p)
def zYp(d:Nat):Prop:=∀p (t:JV) (k:Int),Inv p->5*p.m+2<=d->1<=t.length->t.length<=2->k=8\/k=9->Wp (zA8 d t k p.s p.i p.dp p.n p.e p.fa p.l) (zAT p)
def SpA(d:Nat):Prop:=∀p,Inv p->5*p.m+3<=d->Wp (zD3 d p.s p.i p.dp p.n p.e p.fa p.l) (zAT p)
def zYq(d:Nat):Prop:=∀p (t:JV) (k:Int),Inv p->5*p.m+4<=d->1<=t.length->t.length<=2->k=8\/k=9->Wp (zA7 d t k p.s p.i p.dp p.n p.e p.fa p.l) (zAT p)
def SpO(d:Nat):Prop:=∀p,Inv p->5*p.m+5<=d->Wp (zEI d p.s p.i p.dp p.n p.e p.fa p.l) (zAT p)
theorem zAT.out{p:PS}{o:Option (AV×Heap×Vecs)}(h:Wp o (zAT p)):Wp o λv=>∃x q,v=zB3 (.int .i64 x) q/\(Inv q/\Stp 0 p q/\Res p q x):=h
theorem WFn.two{p q r:PS}{k x y:Int}(s:k=8\/k=9)(hx:q.nf->x=(q.l.length:Int)-1/\p.l.length<q.l.length)(g:r.nf->y=(r.l.length:Int)-1/\q.l.length<r.l.length)(h:r.nf->q.nf)(hr:r.nf):WFn r.l.length (nd6 k [] [] (ofNat 0) x y):=by
 obtain⟨x1,x2⟩:=hx (h hr);obtain⟨j,z⟩:=g hr;refine⟨k,[],[],_,_,_,rfl,z64,zEb _,zEb _,λe=>by omega,λ_=>⟨q.l.length-1,r.l.length-1,?_,?_,by omega,by omega⟩⟩
 .rw[qr];omega
 .rw[qr];omega
theorem zVy(p q:PS)(j:Inv p)(g:Inv q)(h:Stp 1 p q)(k:Int)(s t:JV)(n a b:Int)(z:q.nf->WFn q.l.length (nd6 k s t n a b)):Wp (zAl k s t n a b q.s q.i q.dp q.n q.e q.fa q.l) λv=>∃x r,v=zB3 (.int .i64 x) r/\(Inv r/\Stp 0 p r/\Res p r x)/\Stp (-1) q r:=by
 refine(zWX q g k s t n a b (λA=>?_) z).mono λv hv=>?_
 .obtain⟨p1,p2,p3,p4⟩:=h.nf A;have:=(j.ok p1).2.2.1;omega
 .obtain⟨x,r,rfl,h1,h2,h3⟩:=hv;exact⟨x,r,rfl,⟨h1,h.trans h2,Res.of h h3 h2⟩,h2⟩
theorem zZw{d:Nat}(J:SpN d):zYp (d+1):=by
 intro p t k H hd t1 t2 K;have loop:∀(n:Nat)(q:PS)(x:Int),Inv q->Stp 0 p q->Res p q x->q.s.length-q.i<n->Wp (zAh d n t k x q.s q.i q.dp q.n q.e q.fa q.l) (zAT p):=by
  intro n
  induction n with
  |zero=>intro q x g _ _ h;have:=g.i1;omega
  |succ n O=>
   intro q x g E I T;rw[zEr];refine Wa (λ_=>?_) λ_=>Wb ⟨x,q,rfl,g,E,I⟩
   refine wdU (zFY q g) λq1 h1=>wdB (zHv q1 h1.1 t t2) λb A h2=>?_
   have s2:=h1.2.1.qK h2.2.1;have Q:A.l=q.l:=h2.2.2.2.trans h1.2.2;have x2:Res p A x:=λD=>by rw[Q];exact I (s2.nf D).1
   refine Wa (λ_=>Wb ⟨x,A,rfl,h2.1,E.qK s2,x2⟩) λhb=>?_
   have hb:b=true:=by simpa using hb
   have S:=h2.2.2.1 hb;refine wdU (zLb q1.i A h2.1) λM h3=>?_
   have s3:=(E.qK s2).qK h3.2.1;have m3:=s3.m;refine wdI (zAT.out (J M h3.1 (by omega))) λy C h4=>?_
   have s4:Stp 1 p C:=s3.trans h4.2.1;refine wdI ((zVy p C H h4.1 s4 k [] [] _ x y λB=>WFn.two (p:=p) (q:=A) (r:=C) K x2 (λhr=>?_) (λhr=>(h3.2.1.nf (h4.2.1.nf hr).1).1) B)) λz F j=>O F z j.1.1 j.1.2.1 j.1.2.2 ?_
   .have:=h4.2.2 hr;rw[h3.2.2 (h4.2.1.nf hr).1]at this;exact this
   .have e1:=((s2.qK h3.2.1).trans h4.2.1).trans j.2;have:=h1.2.1.i;have:=h3.2.1.i;have:=h4.2.1.i;have:=j.2.i;have:F.s.length=q.s.length:=congrArg List.length e1.s;omega
 rw[zFs];refine wdI (zAT.out (J p H (by omega))) λx q g=>loop _ q x g.1 g.2.1 g.2.2 ?_
 have:=g.1.i0;have:=g.1.w3;have:=zD (n:=1025) (by omega);omega
theorem zZx{d:Nat}(J:SpA d):zYq (d+1):=by
 intro p t k H hd t1 t2 K;have loop:∀(n:Nat)(q:PS)(x:Int),Inv q->Stp 0 p q->Res p q x->q.s.length-q.i<n->Wp (zAg d n t k x q.s q.i q.dp q.n q.e q.fa q.l) (zAT p):=by
  intro n
  induction n with
  |zero=>intro q x g _ _ h;have:=g.i1;omega
  |succ n O=>
   intro q x g E I T;rw[zEq];refine Wa (λ_=>?_) λ_=>Wb ⟨x,q,rfl,g,E,I⟩
   refine wdU (zFY q g) λq1 h1=>wdB (zHv q1 h1.1 t t2) λb A h2=>?_
   have s2:=h1.2.1.qK h2.2.1;have Q:A.l=q.l:=h2.2.2.2.trans h1.2.2;have x2:Res p A x:=λD=>by rw[Q];exact I (s2.nf D).1
   refine Wa (λ_=>Wb ⟨x,A,rfl,h2.1,E.qK s2,x2⟩) λhb=>?_
   have hb:b=true:=by simpa using hb
   have S:=h2.2.2.1 hb;refine wdU (zLb q1.i A h2.1) λM h3=>?_
   have s3:=(E.qK s2).qK h3.2.1;have m3:=s3.m;refine wdI (zAT.out (J M h3.1 (by omega))) λy C h4=>?_
   have s4:Stp 1 p C:=s3.trans h4.2.1;refine wdI ((zVy p C H h4.1 s4 k [] [] _ x y λB=>WFn.two (p:=p) (q:=A) (r:=C) K x2 (λhr=>?_) (λhr=>(h3.2.1.nf (h4.2.1.nf hr).1).1) B)) λz F j=>O F z j.1.1 j.1.2.1 j.1.2.2 ?_
   .have:=h4.2.2 hr;rw[h3.2.2 (h4.2.1.nf hr).1]at this;exact this
   .have e1:=((s2.qK h3.2.1).trans h4.2.1).trans j.2;have:=h1.2.1.i;have:=h3.2.1.i;have:=h4.2.1.i;have:=j.2.i;have:F.s.length=q.s.length:=congrArg List.length e1.s;omega
 rw[zFr];refine wdI (zAT.out (J p H (by omega))) λx q g=>loop _ q x g.1 g.2.1 g.2.2 ?_
 have:=g.1.i0;have:=g.1.w3;have:=zD (n:=1025) (by omega);omega
theorem zet{d:Nat}(h:zYp d):SpA (d+1):=by
 intro p g hd;rw[zNW];exact wdI (zAT.out (h p _ _ g (by omega) (by decide) (by decide) (.inl rfl))) λx q j=>Wb ⟨x,q,rfl,j⟩
theorem zfn{d:Nat}(h:zYq d):SpO (d+1):=by
 intro p g hd;rw[zOO];exact wdI (zAT.out (h p _ _ g (by omega) (by decide) (by decide) (.inr rfl))) λx q j=>Wb ⟨x,q,rfl,j⟩
theorem up{p q r u:PS}{b:Bool}{k:Int}(z:Inv q)(h:Stp 0 p q)(hi:In b q r)(j:Stp k r u)(hu:Inv u):Inv { u with dp:=wrapx .i64 (u.dp-1) }/\Stp k p { u with dp:=wrapx .i64 (u.dp-1) }/\(u.nf->q.l=r.l):=by
 refine⟨⟨hu.i0,hu.i1,hu.w3,λg=>?_⟩,⟨j.s.trans (hi.s.trans h.s),?_,λg=>?_⟩,λg=>(hi.nf (j.nf g).1).2.2.2.2.symm⟩
 .have g:u.nf:=g;obtain⟨d0,d1,x⟩:=hu.ok g;obtain⟨e1,e2,_⟩:=j.nf g;obtain⟨_,f1,f2,_⟩:=hi.nf e1;have:=(z.ok f1).1;refine⟨?_,?_,x⟩
  .show 0<=wrapx .i64 (u.dp-1)
   rw[zI (by omega) (by omega)];omega
  .show wrapx .i64 (u.dp-1)<=32
   rw[zI (by omega) (by omega)];omega
 .have:=j.i;have:=hi.i;have:=h.i;show p.i<=u.i
  omega
 .have g:u.nf:=g;obtain⟨d0,d1,x⟩:=hu.ok g;obtain⟨e1,e2,e3,e4⟩:=j.nf g;obtain⟨_,f1,f2,f3,f4⟩:=hi.nf e1;obtain⟨g1,g2,g3,g4⟩:=h.nf f1;refine⟨g1,?_,?_,?_⟩
  .show wrapx .i64 (u.dp-1)=p.dp
   rw[zI (by omega) (by omega)];omega
  .show u.n-u.l.length=_
   rw[e3,f3,f4,g3];omega
  .show p.l.length<=u.l.length
   rw[f4]at e4;omega
theorem Res.tr{a b:Int}{p q r:PS}{x:Int}(h:Stp a p q)(k:Res q r x)(j:Stp b q r):Res p r x:=λhr=>by
 obtain⟨g,l⟩:=k hr;have:=(h.nf (j.nf hr).1).2.2.2;exact⟨g,by omega⟩
theorem zAT.tr{p q:PS}(h:Stp 0 p q){v:AV×Heap×Vecs}(k:zAT q v):zAT p v:=by
 obtain⟨x,r,rfl,h1,h2,h3⟩:=k;exact⟨x,r,rfl,h1,h.qK h2,Res.tr h h3 h2⟩
theorem zZy{d:Nat}(p q:PS)(x:Int)(b:Bool)(j:Inv q)(g:Stp 0 p q)(hr:Res p q x):Wp (zCS d x b q.s q.i q.dp q.n q.e q.fa q.l) (zAT p):=by
 rw[zLJ];refine Wa (λ_=>wdU (zDW _ _ (by decide) q j.z) λr h=>?_) λ_=>?_
 .rw[zGJ];exact Wb (.bad h.1 (h.2.1.trans g.s) (by rw[h.2.2.1];exact g.i) h.2.2.2 _)
 .rw[zGJ];exact Wb ⟨x,q,rfl,j,g,hr⟩
theorem In.i'{b:Bool}{p q r:PS}(h:Stp 0 p q)(k:In b q r):r.s=p.s/\p.i<=r.i:=⟨k.s.trans h.s,by rw[k.i];exact h.i⟩
theorem zeu{d:Nat}(Y:SpN d)(W:SpO d):SpN (d+1):=by
 intro p I hd;rw[zNX];refine wdU (zFY p I) λq C=>Wa (λB=>?_) λB=>?_
 .have B:¬q.nf:=zRt B;exact Wb (.bad C.1 C.2.1.s C.2.1.i B _)
 have B:q.nf:=zM3 B;have U:=(C.2.1.nf B).1;refine wdB (zHv q C.1 _ (by decide)) λb q1 h1=>?_
 have s1:=C.2.1.qK h1.2.1;refine Wa (λ_=>?_) λ_=>?_
 .refine wdB (zbL q.i q1 h1.1) λV J h2=>?_
  have m2:=(s1.m0 I h2.2).resolve_right (λh=>h U)
  obtain⟨S,M⟩:=In.i' s1 h2.2;refine Wa (λhb=>Wb (.bad h2.1 S M (λA=>?_) _)) λ_=>?_
  .rw[(h2.2.nf A).1]at hb;cases hb
  refine wdU (zLb q.i J h2.1) λE h3=>?_
  have m3:=h3.2.1.m;refine wdI (zAT.out (Y E h3.1 (by omega))) λy g h4=>?_
  obtain⟨H,F,_⟩:=up h1.1 s1 h2.2 (h3.2.1.trans h4.2.1) h4.1;refine wdI (zAT.out (zTc p _ I H F (ofNat 7) [] [] (ofNat 0) y (Int.negSucc 0) λO=>?_)) λz Q D=>Wb ⟨z,Q,rfl,D⟩
  obtain⟨T,y2⟩:=h4.2.2 O;refine⟨7,[],[],_,_,_,rfl,z64,zEb _,zEb _,λ_=>⟨g.l.length-1,?_,?_⟩,λe=>by omega⟩
  .rw[qr];omega
  .show g.l.length-1<g.l.length
   omega
 .refine wdB (zHv q1 h1.1 _ (by decide)) λV J h2=>?_
  have s2:=s1.qK h2.2.1;refine Wa (λ_=>?_) λ_=>?_
  .refine wdB (zbL q.i J h2.1) λb2 E h3=>?_
   have m2:=(s2.m0 I h3.2).resolve_right (λh=>h U)
   obtain⟨S,M⟩:=In.i' s2 h3.2;refine Wa (λhb=>Wb (.bad h3.1 S M (λA=>?_) _)) λ_=>?_
   .rw[(h3.2.nf A).1]at hb;cases hb
   refine wdI (zAT.out (W E h3.1 (by omega))) λx g h4=>?_
   obtain⟨H,F,X⟩:=up h2.1 s2 h3.2 h4.2.1 h4.1;have hr:Res p { g with dp:=wrapx .i64 (g.dp-1) } x:=λj=>by
    obtain⟨T,y2⟩:=h4.2.2 j;refine⟨T,?_⟩
    have e:=X j;have:=((s2.nf (h3.2.nf (h4.2.1.nf j).1).2.1)).2.2.2;rw[e]at this;show p.l.length<g.l.length
    omega
   refine Wa (λ_=>wdB (zHv { g with dp:=wrapx .i64 (g.dp-1) } H _ (by decide)) λb3 Q D=>zZy p Q x _ D.1 (F.qK D.2.1) λK=>?_) λ_=>zZy p { g with dp:=wrapx .i64 (g.dp-1) } x _ H F hr
   rw[D.2.2.2];exact hr (D.2.1.nf K).1
  .exact wdI (zAT.out ((zcZ J h2.1).mono λv hv=>zAT.tr s2 hv)) λx E h3=>Wb ⟨x,E,rfl,h3⟩
theorem zgn:SpN 0/\zYp 0/\SpA 0/\zYq 0/\SpO 0:=⟨λp _ h=>by omega,λp _ _ _ h=>by omega,λp _ h=>by omega,λp _ _ _ h=>by omega,λp _ h=>by omega⟩
theorem zXW(d:Nat):SpN d/\zYp d/\SpA d/\zYq d/\SpO d:=by
 induction d with
 |zero=>exact zgn
 |succ d g=>exact⟨zeu g.1 g.2.2.2.2,zZw g.1,zet g.2.1,zZx g.2.2.1,zfn g.2.2.2.1⟩
def Ats(es:JE):Prop:=(∀e∈es,∃s t,e=.agg [.str s,.str t])/\es.length<=2000000
abbrev isE(v:AV):Prop:=∃n,v=.int .i64 n/\True
theorem Ats.at{β:Type}{P:β->Prop}{wk:Bool}{es:JE}(h:Ats es){i:Nat}(hi:i<es.length){f:JV->JV->Option β}(k:∀s t,es[i]=.agg [.str s,.str t]->Wp (f s t) P):Wp (dK wk y4 (ixN es (ofNat i)) f) P:=by
 obtain⟨s,t,g⟩:=h.1 _ (Qg hi);exact zcO ((zA2 hi).trans (congrArg some g)) (k _ _ g)
theorem zc0{n k:Nat}(h:n<=2000001)(g:k<=200):n*k<=zc/\n<=zc:=by
 have:n*k<=2000001*200:=Nat.mul_le_mul h g;unfold zc;omega
def within(a b c d x y z u:Int):Prop:=okA a b c d->okA x y z u/\x<=a/\y<=b/\z<=c/\u<=d
theorem TL.at{es:JE}{L:Nat->Nat}{m j:Nat}(h:TL es L m)(g:j<m):∃k s t n l r,ixN es (ofNat j)=some (nd6 k s t n l r)/\(-9223372036854775808<=n/\n<=9223372036854775807)/\s.length+t.length+24<=L j/\L j<=zRW ∧
 (k=7->∃a:Nat,l=ofNat a/\a<j/\L a+3<=L j)/\(k=8\/k=9->∃a b:Nat,l=ofNat a/\r=ofNat b/\a<j/\b<j/\L a+L b+7<=L j):=h j g
abbrev oQ(Q:Nat->Prop)(s:JV):Prop:=∀c∈s,Q c
theorem zC9{Q:Nat->Prop}{a b:JV}(h:oQ Q a)(k:oQ Q b):oQ Q (a++b):=λc hc=>(QI.1 hc).elim (h c) (k c)
abbrev isT(Q:Nat->Prop)(m:Nat)(v:AV):Prop:=∃t,v=.str t/\(t.length<=m/\oQ Q t)
abbrev NC(Q:Nat->Prop)(es:JE):Prop:=∀(j:Nat) k s t n l r,es[j]?=some (nd6 k s t n l r)->oQ Q s/\oQ Q t
theorem zc1{l:JV}(h:l.all (λc=>decide (zDv c))=true):okS l:=λc hc=>Qm (QH.1 h c hc)
theorem zG8{Q:Nat->Prop}(g:∀c,zDv c->Q c){l:JV}(h:l.all (λc=>decide (zDv c))=true):oQ Q l:=λc hc=>g c (zc1 h c hc)
theorem zev{Q:Nat->Prop}(j:∀c,zDv c->Q c){d:Nat}{es:JE}{L:Nat->Nat}{m a:Nat}(h:TL es L m)(C:a<m)(hd:Wp (zCr d es (ofNat a)) (isT Q (L a)))(g:Int):Wp (zBY (d+1) (ofNat a) g es) (isT Q (L a+2)):=by
 rw[zRF];obtain⟨k,s,t,n,l,r,B,_,_,z,_⟩:=h.at C;refine zOn hd λu hu=>zFc B ?_
 have:∃x,zIz k=some (.int .i64 x):=by
  have:Wp (zIz k) isE:=by
   rw[zSS]
   repeat' first|refine Wa (λ_=>?_) (λ_=>?_)|exact Wb ⟨_,rfl,trivial⟩
  obtain⟨v,e,x,rfl,_⟩:=this;exact⟨x,e⟩
 obtain⟨x,A⟩:=this;refine zCE A (Wc (λ_=>We ?_ (We ?_ (Wb ⟨_,rfl,?_,zC9 (zC9 (zG8 j rfl) hu.2) (zG8 j rfl)⟩))) λ_=>Wb ⟨_,rfl,by omega,hu.2⟩)
 all_goals simp only[QE,QL,Qp]
 all_goals unfold zRW at z
 all_goals first|omega|(unfold zh;omega)
theorem zc2{Q:Nat->Prop}(x:∀c,zDv c->Q c){es:JE}{L:Nat->Nat}{m:Nat}(h:TL es L m)(W:NC Q es):∀(d j:Nat),2*j+1<=d->j<m->Wp (zCr d es (ofNat j)) (isT Q (L j)):=by
 intro d
 induction d using Nat.strongRecOn with
 |_ d V=>
  intro j hd U;obtain⟨k,s,t,n,l,r,K,J,h1,O,S,C⟩:=h.at U;obtain⟨d,rfl⟩:∃F,d=F+1:=⟨d-1,by omega⟩
  have part:∀a:Nat,a<j->∀g:Int,Wp (zBY d (ofNat a) g es) (isT Q (L a+2)):=λa z g=>by
   obtain⟨d2,rfl⟩:∃F,d=F+1:=⟨d-1,by omega⟩
   exact zev x h (by omega) (V d2 (by omega) a (by omega) (by omega)) g
  obtain⟨B,M⟩:=W j k s t n l r K;unfold zRW at O;have m0:zh=9223372036854775807:=rfl;rw[zTn];refine zFc K ?_
  refine Wa (λ_=>Wb ⟨_,rfl,by show 3<=_;omega,zG8 x rfl⟩) λ_=>?_
  refine Wa (λ_=>We ?_ (We ?_ (Wb ⟨_,rfl,?_,zC9 (zC9 B (zG8 x rfl)) M⟩))) λ_=>?_
  any_goals (simp only[QE,QL,Qp];omega)
  refine Wa (λ_=>We ?_ (We ?_ (Wb ⟨_,rfl,?_,zC9 (zC9 B (zG8 x rfl)) M⟩))) λ_=>?_
  any_goals (simp only[QE,QL,Qp];omega)
  obtain⟨f,I,T,D⟩:=zXU n J.1 J.2;have D:oQ Q f:=λc hc=>x c (D c hc)
  refine Wa (λ_=>We ?_ (qk_s I (We ?_ (Wb ⟨_,rfl,?_,zC9 (zC9 B (zG8 x rfl)) D⟩)))) λ_=>?_
  any_goals (simp only[QE,QL,Qp];omega)
  refine Wa (λ_=>We ?_ (qk_s I (We ?_ (Wb ⟨_,rfl,?_,zC9 (zC9 B (zG8 x rfl)) D⟩)))) λ_=>?_
  any_goals (simp only[QE,QL,Qp];omega)
  refine Wa (λA=>?_) λ_=>?_
  .obtain⟨a,rfl,z,H⟩:=S (by simpa using A)
   refine zOn (part a z _) λu hu=>We ?_ (Wb ⟨_,rfl,?_,zC9 (zG8 x rfl) hu.2⟩)
   all_goals simp only[QE,QL,Qp]
   all_goals omega
  refine Wa (λA=>?_) λ_=>?_
  .obtain⟨a,b,rfl,rfl,z,hb,H⟩:=C (.inl (by simpa using A))
   refine zOn (part a z _) λu hu=>We ?_ (zOn (part b hb _) λw E=>We ?_ (Wb ⟨_,rfl,?_,zC9 (zC9 hu.2 (zG8 x rfl)) E.2⟩))
   all_goals simp only[QE,QL,Qp]
   all_goals omega
  refine Wa (λA=>?_) λ_=>Wb ⟨_,rfl,by omega,B⟩
  .obtain⟨a,b,rfl,rfl,z,hb,H⟩:=C (.inr (by simpa using A))
   refine zOn (part a z _) λu hu=>We ?_ (zOn (part b hb _) λw E=>We ?_ (Wb ⟨_,rfl,?_,zC9 (zC9 hu.2 (zG8 x rfl)) E.2⟩))
   all_goals simp only[QE,QL,Qp]
   all_goals omega
theorem WF.TL{l:JE}(h:WF l)(hl:l.length<=64):TL l fbL l.length:=by
 intro j A;obtain⟨k,s,t,n,a,b,H,F,E,B,D,z⟩:=h j _ (QD A);refine⟨k,s,t,n,a,b,by rw[QD A,H],F,by have:=zer j;have:=E.1;have:=B.1;omega,zcU (by omega),λe=>?_,λe=>?_⟩
 .obtain⟨x,rfl,g⟩:=D e;exact⟨x,rfl,g,zcS g⟩
 .obtain⟨x,C,rfl,rfl,g,hb⟩:=z e;exact⟨x,C,rfl,rfl,by omega,hb,zcT g hb⟩
theorem WF.NC{l:JE}(h:WF l):NC zDv l:=λj k s t n a b e=>by
 obtain⟨F,A,C,B,E,D,z,_,x,g,_⟩:=h j _ e;cases z;exact⟨x.2,g.2⟩
theorem zPF{Q:Nat->Prop}(g:∀c,zDv c->Q c){l:JE}{L:Nat->Nat}(h:TL l L l.length)(j:NC Q l)(h0:0<l.length)(hl:l.length<=64):Wp (zCr FUEL l (wrapx .i64 (ofNat l.length-1))) λv=>∃t,v=.str t/\oQ Q t:=by
 rw[zCq h0 (by omega)]
 exact(zc2 g h j FUEL (l.length-1) (Qe (zD (by omega))) (by omega)).mono λv ⟨t,e,h⟩=>⟨t,e,h.2⟩
def isP(v:AV):Prop:=(∃e f,v=.qd [.agg [.qa],.agg [.int .i64 e,.int .i64 f]]/\¬(e=0/\f=0))\/∃l,v=.qd [.agg [.qf 6 l],.agg [.int .i64 (ofNat 0),.int .i64 (ofNat 0)]]/\WF l/\l.length<=64
theorem zRu(q:PS)(j:Inv q):Wp (zDI q.s q.i q.dp q.n q.e q.fa (ofNat 0) (ofNat 0) q.l) isP:=by
 rw[zPM];refine Wa (λg=>?_) λg=>?_
 .have g:¬q.nf:=zRt g;exact Wb (.inl ⟨_,_,rfl,g⟩)
 .have g:q.nf:=zM3 g;obtain⟨_,_,h1,h2,h3⟩:=j.ok g;exact Wb (.inr ⟨_,rfl,h3,by omega⟩)
theorem zVz(q:PS)(g:Inv q)(h0:q.nf->0<q.l.length):Wp (zFB q.s q.i q.dp q.n q.e q.fa (ofNat 0) (ofNat 0) q.l) isP:=by
 rw[zPN];refine Wa (λj=>?_) λ_=>zRu q g
 have j:q.nf:=zSB.1 j;obtain⟨_,_,h1,h2,h3⟩:=g.ok j;have hl:q.l.length<=64:=by omega
 exact zOn (zPF (λ_ h=>h) (h3.TL hl) h3.NC (h0 j) hl) λt _=>Wc (λ_=>wdU (zDW _ _ (by decide) q g.z) λr hr=>zRu r hr.1) λ_=>zRu q g
theorem zSC(s:JV)(h8:∀c∈s,c<256):Wp (zCx s) isP:=by
 rw[zMm];refine Wc (λ_=>Wb (.inl ⟨_,_,rfl,λh=>(by cases h.1)⟩)) λC=>?_
 rw[qr]at C;have B:Inv ⟨s,ofNat 0,ofNat 0,ofNat 0,ofNat 0,ofNat 0,[],h8⟩:=⟨Int.le_refl _,Ql _,by show s.length<=1024;omega,λ_=>⟨Int.le_refl _,(by decide:ofNat 0<=32),Int.le_refl _,(by decide:ofNat 0<=64),λj v h=>by cases h⟩⟩
 have D:5*(PS.mk s (ofNat 0) (ofNat 0) (ofNat 0) (ofNat 0) (ofNat 0) [] h8).m+5<=FUEL:=by
  rw[zTy ⟨rfl,rfl⟩];have:FUEL=1180591620717411303424:=zH0;rw[this];exact(by decide:5*(33-ofNat 0).toNat+5<=1180591620717411303424)
 refine wdI (zAT.out ((zXW FUEL).2.2.2.2 _ B D)) λx q A=>wdU (zFY q A.1) λr hr=>?_
 have h0:r.nf->0<r.l.length:=λg=>by
  have:=(A.2.2 (hr.2.1.nf g).1).2;rw[hr.2.2];exact this
 exact Wc (λ_=>wdU (zDW _ _ (by decide) r hr.1.z) λu hu=>zVz u hu.1 λg=>absurd g hu.2.2.2) λ_=>zVz r hr.1 h0
abbrev zV5(k:Int)(s t:JV)(n l r:Int):AV:=.agg [.int .i64 k,.str s,.str t,.int .i64 n,.int .i64 l,.int .i64 r]
def Nds(es:JE):Prop:=(∀e∈es,∃k s t n l r,e=zV5 k s t n l r/\-9223372036854775808<=n/\n<=9223372036854775807/\tx 2000000 s/\tx 2000000 t)/\es.length<=2000000
def NdB(es:JE):Prop:=(∀e∈es,∃k s t n l r,e=zV5 k s t n l r/\-9223372036854775808<=n/\n<=9223372036854775807/\(s.length<=2000000/\∀c∈s,c<256)/\(t.length<=2000000/\∀c∈t,c<256))/\es.length<=2000000
theorem zXX{c:Nat}(h:zDv c):c<256:=by have:=h.2.1;omega
theorem Nds.b{es:JE}(h:Nds es):NdB es:=⟨λe g=>by
 obtain⟨k,s,t,n,l,r,e1,h1,h2,h3,h4⟩:=h.1 e g;exact⟨k,s,t,n,l,r,e1,h1,h2,⟨h3.1,λc hc=>zXX (h3.2 c hc)⟩,h4.1,λc hc=>zXX (h4.2 c hc)⟩,h.2⟩
theorem NdB.at{β:Type}{P:β->Prop}{wk:Bool}{es:JE}(h:NdB es){i:Nat}(hi:i<es.length){f:Int->JV->JV->Int->Int->Int->Option β}(k:∀g s t n l r,es[i]=zV5 g s t n l r->-9223372036854775808<=n->n<=9223372036854775807->Wp (f g s t n l r) P):Wp (dK wk yI (ixN es (ofNat i)) f) P:=by
 obtain⟨g,s,t,n,l,r,j,h1,h2,_⟩:=h.1 _ (Qg hi);exact zFc ((zA2 hi).trans (congrArg some j)) (k _ _ _ _ _ _ j h1 h2)
theorem zOx(es g:JE)(h:NdB es)(h':NdB g):Wp (z0 es g) λv=>∃b,v=.bool b/\(b=true->es=g):=by
 have loop:es.length=g.length->∀(n i:Nat),i<=es.length->es.length-i<n->(∀j (h1:j<es.length) (h2:j<g.length),j<i->es[j]=g[j])->Wp (z6 n es g (ofNat es.length) (ofNat i)) λv=>∃b,v=.bool b/\(b=true->es=g):=by
  intro hl n
  induction n with
  |zero=>intro i _ h;omega
  |succ n T=>
   intro i hi U J;rw[zB9];refine Wp.lt (λx=>h.at x λk s t z l r e1 _ _=>h'.at (hl▸x) λH A E M K C e2 _ _=>?_) λO=>Wb ⟨_,rfl,λ_=>List.ext_getElem hl λj h1 h2=>J j h1 h2 (by omega)⟩
   show Wp (br (!(k==H&&(zi s A&&(zi t E&&(z==M&&(l==K&&r==C)))))) _ _) _
   refine Wa (λ_=>Wb ⟨_,rfl,λh=>by cases h⟩) λhb=>?_
   rw[zm (by have:=h.2;omega)]
   refine T (i+1) x (by omega) λj h1 h2 V=>?_
   rcases Nat.lt_or_ge j i with q|q
   .exact J j h1 h2 q
   .obtain rfl:j=i:=by omega
    have hb:(k==H&&(zi s A&&(zi t E&&(z==M&&(l==K&&r==C)))))=true:=by simpa using hb
    simp only[QA]at hb;obtain⟨B,S,Q,I,D,F⟩:=hb;rw[e1,e2];have:=zAJ S;have:=zAJ Q;simp only[beq_iff_eq]at B I D F;subst B I D F;simp_all
 rw[zCJ];refine Wa (λ_=>Wb ⟨_,rfl,λh=>by cases h⟩) λe=>loop ?_ _ 0 (QN _) (zD (by have:=h.2;omega)) λj _ _ h=>absurd h (Nat.not_lt_zero _)
 have e:(es.length:Int)=g.length:=by simpa using e
 exact Int.ofNat_inj.1 e
theorem zLc(es g:JE)(h:NdB es)(h':NdB g):Wp (z0 es g) isB:=(zOx es g h h').mono λv ⟨b,e,_⟩=>⟨b,e,trivial⟩
def zM4(us:JE)(c:Nat->Int)(m:Nat):Prop:=us.length=m/\∀j,j<m->us[j]?=some (.int .i64 (c j))
theorem zQq{us:JE}{j:Nat}{x:Int}(h:us[j]?=some (.int .i64 x)):ldE us (Int.toNat (ofNat j)) 0 1 false=some (.int .i64 x):=by
 show(match us[j]? with|some e=>Go.Sy.part e.cells 0 1 false|none=>none)=_
 rw[h];rfl
theorem zM4.set{us:JE}{c:Nat->Int}{m a:Nat}(h:zM4 us c m)(s:a<m)(x:Int):zM4 (us.set a (.int .i64 x)) (upd c a x) m:=by
 refine⟨by rw[List.length_set];exact h.1,λj g=>?_⟩
 by_cases e:j=a
 .subst e;rw[zEZ,List.getElem?_set_self (by rw[h.1];exact g)]
 .rw[zBN e,List.getElem?_set_ne (λl=>e l.symm)]
  exact h.2 j g
def zMP:Nat:=4000100
def Bad(c:Nat->Int)(m:Nat):Prop:=∃j,j<m/\2<=c j
structure Sh(es:JE)(L:Nat->Nat)(c:Nat->Int)(i T:Nat):Prop where
 tl:TL es L i
 le:∀j,j<i->L j<=zMP*i
 sum:rs L c i+T<=zMP*i
 qM:∀j,j<i->c j=0\/c j=1
 new:∀j,i<=j->c j=0
def Ok(es:JE)(c:Nat->Int)(m i T:Nat)(g:JV):Prop:=Bad c m\/∃L,Sh es L c i T/\(g.map L).foldr (·+·) 0<=T
theorem Sh.take{es:JE}{L:Nat->Nat}{c:Nat->Int}{i T a:Nat}(h:Sh es L c i T)(l:a<i)(h0:c a=0):Sh es L (upd c a (c a+1)) i (T+L a):=by
 refine⟨h.tl,h.le,?_,λj g=>?_,λj g=>?_⟩
 .have:=zWW (L:=L) h0 (show c a+1≠0 by omega) l
  have:=h.sum;omega
 .by_cases e:j=a
  .subst e;rw[zEZ];omega
  .rw[zBN e];exact h.qM j g
 .rw[zBN (by omega)];exact h.new j g
theorem Ok.take{es:JE}{c:Nat->Int}{m i T a:Nat}{g:JV}(h:Ok es c m i T g)(l:a<i)(s:i<=m)(hc:∀j,0<=c j):∃z,Ok es (upd c a (c a+1)) m i z (a::g):=by
 rcases h with⟨j,x,h2⟩|⟨L,h,A⟩
 .refine⟨0,.inl ⟨j,x,?_⟩⟩
  by_cases e:j=a
  .subst e;rw[zEZ];omega
  .rw[zBN e];exact h2
 .rcases h.qM a l with h0|h1
  .refine⟨T+L a,.inr ⟨L,h.take l h0,?_⟩⟩
   show L a+(g.map L).foldr (·+·) 0<=_
   omega
  .exact⟨0,.inl ⟨a,by omega,by rw[zEZ];omega⟩⟩
theorem Ok.next{es:JE}{c:Nat->Int}{m i T:Nat}{A:JV}(h:Ok es c m i T A)(J:i<m)(hi:i<64){k:Int}{s t:JV}{n l r:Int}(X:es[i]?=some (nd6 k s t n l r))(V:-9223372036854775808<=n/\n<=9223372036854775807)(hs:s.length+t.length+24<=zMP)
  (M:k=7->∃a:Nat,l=ofNat a/\a<i/\A=[a]) (D:k=8\/k=9->∃a b:Nat,l=ofNat a/\r=ofNat b/\a<i/\b<i/\A=[b,a]):Ok es c m (i+1) 0 []:=by
 rcases h with hb|⟨L,h,x⟩
 .exact .inl hb
 .refine .inr ⟨upd L i (T+zMP),⟨λj z=>?_,λj z=>?_,?_,λj z=>?_,λj z=>h.new j (by omega)⟩,QB _⟩
  .by_cases e:j=i
   .subst e;have hT:T<=zMP*j:=by have:=h.sum;omega
    refine⟨k,s,t,n,l,r,X,V,by rw[zEZ];omega,by rw[zEZ];unfold zMP zRW at *;omega,λe=>?_,λe=>?_⟩
    .obtain⟨a,rfl,g,rfl⟩:=M e;have x:L a+0<=T:=x;exact⟨a,rfl,g,by rw[zEZ,zBN (by omega)];unfold zMP;omega⟩
    .obtain⟨a,b,rfl,rfl,g,hb,rfl⟩:=D e;have x:L b+(L a+0)<=T:=x;exact⟨a,b,rfl,rfl,g,hb,by rw[zEZ,zBN (by omega),zBN (by omega)];unfold zMP;omega⟩
   .obtain⟨Q,E,I,F,W,H,q1,Y,O,U,S,K⟩:=h.tl j (by omega)
    refine⟨Q,E,I,F,W,H,q1,Y,by rw[zBN e];exact O,by rw[zBN e];exact U,λB=>?_,λB=>?_⟩
    .obtain⟨a,rfl,g,C⟩:=S B;exact⟨a,rfl,g,by rw[zBN e,zBN (by omega)];exact C⟩
    .obtain⟨a,b,rfl,rfl,g,hb,C⟩:=K B;exact⟨a,b,rfl,rfl,g,hb,by rw[zBN e,zBN (by omega),zBN (by omega)];exact C⟩
  .by_cases e:j=i
   .subst e;rw[zEZ];have:=h.sum;rw[Nat.mul_add];omega
   .rw[zBN e];have:=h.le j (by omega);rw[Nat.mul_add];omega
  .rw[rs,zRs (L':=L) (c':=c) (λj z=>zBN (by omega)) λ_ _=>rfl,zEZ,if_pos (h.new i (QB _)),Nat.mul_add]
   have:=h.sum;omega
  .by_cases e:j=i
   .subst e;exact .inl (h.new j (QB _))
   .exact h.qM j (by omega)
abbrev zRX(es:JE)(v:AV):Prop:=∃b,v=.bool b/\(b=true->0<es.length/\es.length<=64/\∃L,TL es L es.length)
theorem zEB{es:JE}:zRX es (.bool false):=⟨false,rfl,λh=>by cases h⟩
theorem zXY(es us:JE)(c:Nat->Int)(hu:zM4 us c es.length)(h0:0<es.length)(z:es.length<=64)(s:Ok es c es.length es.length 0 []):∀(n i:Nat),i<=es.length->es.length-i<n->(∀j,j<i->j<es.length-1->c j=1)->Wp (zCN n es (ofNat us.length) (ofNat i) us) (zRX es):=by
 intro n
 induction n with
 |zero=>intro i _ h;omega
 |succ n A=>
  intro i hi E x;have C:=hu.1;rw[zNU,hu.1];have g:wrapx .i64 (ofNat es.length-1)=ofNat (es.length-1):=zCq h0 (by omega)
  refine Wp.lt (λl=>?_) λB=>?_
  .refine zKv l (zCE (zQq (hu.2 i l)) ?_)
   rw[g,zm (by omega),←hu.1]
   refine Wp.lt (λhl=>Wa (λ_=>Wb zEB) λh1=>A (i+1) l (by omega) λj h2 h3=>?_) λhl=>A (i+1) l (by omega) λj h2 h3=>?_
   .by_cases e:j=i
    .subst e;simpa using h1
    .exact x j (by omega) h3
   .exact x j (by omega) h3
  .rw[g];refine zKv (by omega) (zCE (zQq (hu.2 _ (by omega))) (Wb ⟨_,rfl,λhb=>⟨h0,z,?_⟩⟩))
   have hb:c (es.length-1)=0:=by simpa using hb
   rcases s with⟨j,D,h2⟩|⟨L,h,_⟩
   .by_cases e:j<es.length-1
    .have:=x j (by omega) e;omega
    .have:j=es.length-1:=by omega
     subst this;omega
   .exact⟨L,h.tl⟩
theorem zMy{es us parts:JE}{l n i x:Nat}{c:Nat->Int}{k:Int}{P:AV->Prop}(hu:zM4 us c es.length)(hc:∀j,0<=c j/\c j<=1000)(hx:parts[x]?=some (.int .i64 k))(B:x<5)(hi:i<=es.length)(t23 t24:Int)(t22:JE)(z:P (.bool false))
  (h:∀a:Nat,k=ofNat a->a<i->Wp (zBU l n es (ofNat i) t22 t23 t24 (ofNat parts.length) (ofNat (x+1)) (us.set a (.int .i64 (c a+1))) parts) P):Wp (zBU l (n+1) es (ofNat i) t22 t23 t24 (ofNat parts.length) (ofNat x) us parts) P:=by
 have g:x<parts.length:=(QC.1 hx).1;rw[zIQ];refine Wp.lt (λ_=>zKv g (zCE (zQq hx) (Wc (λ_=>Wb z) λh0=>Wc (λ_=>Wb z) λh1=>?_))) λA=>absurd g (by omega)
 obtain⟨a,rfl⟩:=Int.eq_ofNat_of_zero_le (show 0<=k by omega)
 have D:a<i:=by rw[qr]at h1;omega
 have s:a<us.length:=by rw[hu.1];omega
 have C:=hc a;refine zKv s (zCE (zQq (hu.2 a (by omega))) (zKv s ?_))
 rw[zm (by omega),zI (by omega) (by omega)]
 exact h a rfl D
theorem zNO{es us parts:JE}{g n i x:Nat}{P:AV->Prop}(hx:x=parts.length)(hi:i<1000)(t22:JE)(t23:Int)(h:Wp (zCO g es t22 t23 (ofNat (i+1)) us) P):Wp (zBU g (n+1) es (ofNat i) t22 t23 (ofNat i) (ofNat parts.length) (ofNat x) us parts) P:=by
 rw[zIQ];refine Wp.lt (λh=>absurd h (by omega)) λ_=>?_
 rw[zm (by omega)]
 exact h
theorem zXZ:FUEL=1180591620717411303421+1+1+1:=zH0
theorem zVA{c:Nat->Int}{a n:Nat}(hc:∀j,0<=c j/\c j<=(n:Int))(j:Nat):0<=upd c a (c a+1) j/\upd c a (c a+1) j<=((n+1:Nat):Int):=by
 by_cases e:j=a
 .subst e;rw[zEZ];have:=hc j;omega
 .rw[zBN e];have:=hc j;omega
theorem zQ9(es:JE)(h:NdB es):Wp (zJL es) (zRX es):=by
 rw[zRE];refine Wc (λ_=>Wb zEB) λh0=>Wc (λ_=>Wb zEB) λH=>?_
 rw[qr]at h0 H;have h0:0<es.length:=by omega
 have H:es.length<=64:=by omega
 have loop:∀(n i:Nat)(us:JE)(c:Nat->Int),i<=es.length->es.length-i<n->zM4 us c es.length->(∀j,0<=c j/\c j<=((2*i:Nat):Int))->Ok es c es.length i 0 []->Wp (zCO n es es (ofNat es.length) (ofNat i) us) (zRX es):=by
  intro n
  induction n with
  |zero=>intro i us c _ h;omega
  |succ n Y=>
   intro i us c hi hn hu hc A;have O:∀j,0<=c j/\c j<=1000:=λj=>by have:=hc j;omega
   have V:∀j,0<=c j/\c j<=((2*(i+1):Nat):Int):=λj=>by have:=hc j;omega
   rw[zNV];refine Wp.lt (λg=>?_) λaa=>?_
   .obtain⟨k,s,t,nn,l,r,he,U,X,hs,ht⟩:=h.1 _ (Qg g);have E:es[i]?=some (nd6 k s t nn l r):=by rw[QD g,he]
    have C:s.length+t.length+24<=zMP:=by have a1:=hs.1;have a2:=ht.1;unfold zMP;omega
    refine zFc ((zA2 g).trans (congrArg some he)) ?_
    have D:∀parts,parts=[]->¬k=7->¬(k=8\/k=9)->Wp (zCe n es (ofNat i) es (ofNat es.length) (ofNat i) us parts) (zRX es):=λparts hp h7 h8=>by
     subst hp;rw[zFq,zXZ];exact zNO rfl (by omega) _ _ (Y (i+1) us c g (by omega) hu V (A.next g (by omega) E ⟨U,X⟩ C (λe=>absurd e h7) λe=>absurd e h8))
    refine Wa (λJ=>?_) λB=>?_
    .have J:k=7:=by simpa using J
     refine Wa (λ_=>Wb zEB) λ_=>?_
     rw[zFq,zXZ];refine zMy (parts:=[.int .i64 l]) (x:=0) hu O rfl (by omega) hi _ _ _ zEB λa W z=>?_
     obtain⟨T,F⟩:=A.take z hi λj=>(hc j).1
     refine zNO rfl (by omega) _ _ (Y (i+1) _ (upd c a (c a+1)) g (by omega) (hu.set (by omega) _) (λj=>?_) (F.next g (by omega) E ⟨U,X⟩ C (λ_=>⟨a,W,z,rfl⟩) λe=>by omega))
     have:=zVA (a:=a) hc j;omega
    .have B:¬k=7:=by simpa using B
     have two:k=8\/k=9->Wp (zCe n es (ofNat i) es (ofNat es.length) (ofNat i) us [.int .i64 l,.int .i64 r]) (zRX es):=λJ=>by
      rw[zFq,zXZ];refine zMy (parts:=[.int .i64 l,.int .i64 r]) (x:=0) hu O rfl (by omega) hi _ _ _ zEB λa W z=>?_
      obtain⟨T,F⟩:=A.take z hi λj=>(hc j).1
      have I:=λj=>zVA (a:=a) hc j
      refine zMy (parts:=[.int .i64 l,.int .i64 r]) (x:=1) (hu.set (by omega) _) (λj=>by have:=I j;omega) rfl (by omega) hi _ _ _ zEB λb hb K=>?_
      obtain⟨T2,S⟩:=F.take K hi λj=>(I j).1
      refine zNO rfl (by omega) _ _ (Y (i+1) _ (upd (upd c a (c a+1)) b (upd c a (c a+1) b+1)) g (by omega) ((hu.set (by omega) _).set (by omega) _) (λj=>?_) (S.next g (by omega) E ⟨U,X⟩ C (λe=>by omega) λ_=>⟨a,b,W,hb,z,K,rfl⟩))
      have:=zVA (a:=b) I j;omega
     have j2:∀b:Bool,(b=true->k=8\/k=9)->(b=false->¬(k=8\/k=9))->Wp (zEF n es (ofNat i) es (ofNat es.length) (ofNat i) b k s t nn l r us []) (zRX es):=λb b1 b0=>by
      rw[zOK];exact Wa (λhb=>two (b1 hb)) λhb=>Wa (λ_=>Wb zEB) λ_=>Wa (λ_=>Wb zEB) λ_=>D [] rfl B (b0 hb)
     refine Wa (λJ=>j2 true (λ_=>.inl (by simpa using J)) λe=>by cases e) λM=>j2 _ (λe=>.inr (by simpa using e)) λe=>?_
     have M:¬k=8:=by simpa using M
     have ab:¬k=9:=by simpa using e
     omega
   .have:i=es.length:=by omega
    subst this;exact zXY es us c hu h0 H A _ 0 (QN _) (zD (by omega)) λj Q=>by omega
 rw[zOL];have e1:Int.toNat (ofNat es.length)=es.length:=rfl;refine We ⟨Ql _,Int.le_refl _,?_,?_⟩ (loop _ 0 _ (λ_=>0) (QN _) (zD (by omega)) ⟨?_,λj Q=>?_⟩ (λj=>by omega) (.inr ⟨λ_=>0,⟨λj Q=>by omega,λj Q=>by omega,QB _,λj Q=>by omega,λ_ _=>rfl⟩,QB _⟩))
 .rw[e1];unfold zc;omega
 .rw[e1];unfold zc;omega
 .rw[e1,List.length_replicate]
 .rw[e1];exact QC.2 ⟨by rw[List.length_replicate];exact Q,by rw[List.getElem_replicate]⟩
theorem zUE{l:JE}(h:WF l)(hl:l.length<=64):Nds l:=⟨λe A=>by
 obtain⟨j,B⟩:=List.getElem?_of_mem A;obtain⟨k,s,t,n,a,b,rfl,z,g,x,_⟩:=h j e B;exact⟨k,s,t,n,a,b,rfl,z.1,z.2,⟨by have:=g.1;omega,g.2⟩,⟨by have:=x.1;omega,x.2⟩⟩,by omega⟩
theorem zJv(es:JE)(h:NdB es):Wp (zCy es) λv=>∃n,v=.int .i64 n/\(n=0->(0<es.length/\es.length<=64/\∃L,TL es L es.length)/\Nds es):=by
 have g:∀n:Int,n≠0->∃m,(AV.int .i64 n)=.int .i64 m/\(m=0->(0<es.length/\es.length<=64/\∃L,TL es L es.length)/\Nds es):=λn D=>⟨n,rfl,λe=>absurd e D⟩
 rw[zMn];refine zAn (zQ9 es h) λb hb=>Wa (λ_=>Wb (g _ (by decide))) λz=>?_
 have z:b=true:=by simpa using z
 obtain⟨h0,A,L,E⟩:=hb z;have J:NC (λc=>c<256) es:=λj k s t n l r e=>by
  obtain⟨T,M,S,O,U,Q,K,_,_,I,B⟩:=h.1 _ (QF e);cases K;exact⟨I.2,B.2⟩
 refine zOn (zPF (λ_ h=>zXX h) E J h0 A) λt B=>?_
 obtain⟨v,e,hv⟩:=zSC t λc hc=>B c hc
 rw[e];rcases hv with⟨x,f,rfl,D⟩|⟨l,rfl,F,hl⟩
 .show Wp (br (!(x==0&&f==0)) _ _) _
  exact Wa (λ_=>Wb (g _ (by decide))) λH=>absurd (zM3 (p:=⟨[],0,0,0,x,f,[],λc hc=>by cases hc⟩) H) D
 .rw[zUk];exact Wa (λ_=>Wb (g _ (by decide))) λ_=>zAn (zOx l es (zUE F hl).b h) λb hb=>Wa (λ_=>Wb (g _ (by decide))) λC=>Wb ⟨_,rfl,λ_=>⟨⟨h0,A,L,E⟩,hb (by simpa using C)▸zUE F hl⟩⟩
theorem ze9(es:JE)(h:Nds es):Wp (zCy es) λv=>∃n,v=.int .i64 n/\(n=0->0<es.length/\es.length<=64/\∃L,TL es L es.length):=(zJv es h.b).mono λv ⟨n,e,h⟩=>⟨n,e,λz=>(h z).1⟩
theorem zKy(es:JE)(h:NdB es):Wp (zCy es) isE:=(zJv es h).mono λv ⟨n,e,_⟩=>⟨n,e,trivial⟩
abbrev Wd:=JV×Int
def wdA(base:Int)(w:Wd):AV:=.agg [.str w.1,.int .i64 (base+w.2)]
def wds(base:Int)(ws:List Wd):JE:=ws.map (wdA base)
theorem zM5(base:Int)(ws:List Wd):(wds base ws).length=ws.length:=QG _
theorem zc3(base:Int)(ws:List Wd)(s:JV)(p:Int):wds base ws++[.agg [.str s,.int .i64 (base+p)]]=wds base (ws++[(s,p)]):=by
 unfold wds;rw[Qu];rfl
end Go.Proofs.YtjfcepbllmdfcaaGreatDoor.record
namespace Go.Proofs.YtjfcepbllmdfcaaGreatDoor.record
open Go Go.Sy
variable[MX]
theorem zTg:Nds [zV5 (ofNat 1) [] [] (ofNat 0) (Int.negSucc 0) (Int.negSucc 0)]:=⟨λe g=>by
 rw[QU.1 g];exact⟨_,_,_,_,_,_,rfl,by decide,by decide,zEb _,zEb _⟩,by decide⟩
theorem zBX(x l m:Int):Wp (zBs x l m) isB:=by
 rw[zLo];exact Wa (λ_=>Wb ⟨_,rfl,trivial⟩) λ_=>Wb ⟨_,rfl,trivial⟩
theorem zVB(r:JE)(hr:NdB r):Wp (zCz r) isB:=by
 rw[zMo];exact zWU zD8 (zAn (zLc r _ hr zTg.b) λx _=>Wb ⟨_,rfl,trivial⟩)
theorem z5(t:Bool):Wp (zl t) isE:=by
 rw[zGa];exact Wa (λ_=>Wb ⟨_,rfl,trivial⟩) λ_=>Wb ⟨_,rfl,trivial⟩
section
variable{k:Int}{n:JV}{u:JV}{b:Int}{c:Int}{d:Int}{i_:JV}{x1:Int}{x2:Int}{x3:Int}{x4:Int}{r:JE}{ba:Int}
theorem zaN(t:Bool)(hr:NdB r):Wp (zAy t k n u b c d i_ x1 x2 x3 x4 r ba) isE:=by
 rw[zGb];exact Wa (λ_=>zV3 (zKy r hr) λz _=>Wa (λ_=>Wa (λ_=>z5 _) λ_=>zAn (zBn i_) λx _=>Wa (λ_=>zAn (zVB r hr) λx _=>z5 _) λ_=>z5 _) λ_=>z5 _) λ_=>z5 _
theorem zaO(t:Bool)(hr:NdB r):Wp (zBQ t k n u b c d i_ x1 x2 x3 x4 r ba) isE:=by
 rw[zGe];have g:=λt=>zaN (k:=k) (n:=n) (u:=u) (b:=b) (c:=c) (d:=d) (i_:=i_) (x1:=x1) (x2:=x2) (x3:=x3) (x4:=x4) (ba:=ba) t hr
 refine Wa (λ_=>Wa (λ_=>zAn (zBn u) λx _=>Wa (λ_=>zAn (zBX ..) λx _=>Wa (λ_=>zAn (zBX ..) λx _=>Wa (λ_=>zAn (zBX ..) λx _=>Wa (λ_=>g _) λ_=>g _) λ_=>g _) λ_=>g _) λ_=>g _) λ_=>g _) λ_=>Wa (λ_=>Wa (λ_=>zAn (zBn u) λx _=>Wa (λ_=>zAn (zBX ..) λx _=>Wa (λ_=>zAn (zBX ..) λx _=>Wa (λ_=>Wa (λ_=>Wa (λ_=>Wa (λ_=>zV3 (zKy r hr) λz _=>z5 _) λ_=>z5 _) λ_=>z5 _) λ_=>z5 _) λ_=>z5 _) λ_=>z5 _) λ_=>z5 _) λ_=>z5 _) λ_=>Wa (λ_=>Wa (λ_=>Wa (λ_=>Wa (λ_=>Wa (λ_=>Wa (λ_=>Wa (λ_=>Wa (λ_=>zAn (zBX ..) λx _=>z5 _) λ_=>z5 _) λ_=>z5 _) λ_=>z5 _) λ_=>z5 _) λ_=>z5 _) λ_=>z5 _) λ_=>z5 _) λ_=>z5 _
theorem zX0(hr:NdB r):Wp (zAt k n u b c d i_ x1 x2 x3 x4 r ba) isE:=by
 rw[zIR];have g:=λt=>zaO (k:=k) (n:=n) (u:=u) (b:=b) (c:=c) (d:=d) (i_:=i_) (x1:=x1) (x2:=x2) (x3:=x3) (x4:=x4) (ba:=ba) t hr
 exact zAn (zBn n) λx _=>Wa (λ_=>zCE (zGp x1 x2 x3 x4) (Wa (λ_=>g _) λ_=>g _)) λ_=>g _
end
theorem zVC(c:Nat):∀s:JV,(cut1 c s).1.length<=s.length/\(cut1 c s).2.1.length<=s.length
 |[]=>⟨QB _,QB _⟩
 |x::r=>by
  have g:=zVC c r;unfold cut1;split
  .exact⟨QN _,QV _⟩
  .revert g
   rcases cut1 c r with⟨a,b,f⟩
   intro g;exact⟨Nat.succ_le_succ g.1,Nat.le_succ_of_le g.2⟩
def zAz(ns:List JV):List (AV×AV):=ns.map λs=>(.str s,.bool true)
theorem zRa(s:JV):∀ns:List JV,zAE false [Kd.s] (.str s) (zAz ns)=if s∈ns then some (some (.bool true))else some none
 |[]=>rfl
 |t::ns=>by
  have h:=zRa s ns;show(match some (zi s t)with
   |some true=>some (some (AV.bool true))
   |some false=>zAE false [Kd.s] (.str s) (zAz ns)
   |none=>none)=_
  rw[zKW];by_cases e:s=t
  .subst e;simp
  .simp only[e,decide_false,QJ,false_or];exact h
end Go.Proofs.YtjfcepbllmdfcaaGreatDoor.record
namespace Go.Proofs.YtjfcepbllmdfcaaGreatDoor.record
open Go Go.Sy
variable[MX]
def dec(n:Nat):JV:=(Lib.decDigits n).map UInt8.toNat
theorem zew(n:Nat):dec n=if n<10 then[48+n]else dec (n / 10)++[48+n % 10]:=by
 unfold dec;rw[Lib.decDigits];by_cases h:n<10
 .rw[dif_pos h,if_pos h];simp only[QZ,List.map_nil,zNN h]
 .rw[dif_neg h,if_neg h,Qu];simp only[QZ,List.map_nil,zNN (Nat.mod_lt n (by decide:0<10))]
def zTz(x:Nat)(l:JV):Nat:=l.foldl (λx c=>10*x+(c-48)) x
theorem zW0:∀(l:JV)(x:Nat),x<=zTz x l
 |[],x=>QB _
 |c::r,x=>by
  have:=zW0 r (10*x+(c-48));show x<=zTz (10*x+(c-48)) r
  omega
theorem zRv(n:Nat):(∀c∈dec n,48<=c/\c<=57)/\(∃d r,dec n=d::r/\(1<=n->d≠48))/\zTz 0 (dec n)=n:=by
 induction n using Nat.strongRecOn with
 |ind n g=>
  rw[zew];by_cases h:n<10
  .rw[if_pos h];refine⟨λc hc=>?_,⟨_,_,rfl,λ_=>by omega⟩,?_⟩
   .rw[QU.1 hc];omega
   .show 10*0+(48+n-48)=n
    omega
  .rw[if_neg h];obtain⟨h1,⟨d,r,h2,h3⟩,h4⟩:=g (n / 10) (by omega)
   refine⟨λc hc=>?_,⟨d,r++[48+n % 10],by rw[h2];rfl,λ_=>h3 (by omega)⟩,?_⟩
   .rcases QI.1 hc with hc|hc
    .exact h1 c hc
    .rw[QU.1 hc];omega
   .unfold zTz at h4⊢;rw[List.foldl_append,h4];show 10*(n / 10)+(48+n % 10-48)=n
    omega
theorem zGq(n:Nat)(h:n<=9223372036854775807):(dec n).length<=21:=by
 have:=Lib.itoa_length_le (n:Int) (by omega) (by omega)
 unfold Lib.itoa at this;rw[if_neg (by omega),Int.toNat_natCast]at this
 unfold dec;rw[QG];exact this
theorem zQr(n:Nat)(h:n<=9223372036854775807):zB8 (n:Int) (ofNat 10)=some (.str (dec n)):=by
 show(match((ofNat 10==10)&&decide (-9223372036854775808<=(n:Int)/\(n:Int)<=9223372036854775807))with|true=>some (AV.str ((Lib.itoa n).map UInt8.toNat))|false=>none)=_
 rw[Qc (⟨by omega,by omega⟩:-9223372036854775808<=(n:Int)/\(n:Int)<=9223372036854775807)]
 unfold Lib.itoa;rw[if_neg (by omega),Int.toNat_natCast]
 rfl
theorem zRw(n:Nat)(h:n<100):zC3 (n:Int)=some (.str (dec n)):=by
 show zL3 [.int .i64 (n:Int)]=_
 unfold zL3;simp only;split
 .rfl
 .rename_i g;exact absurd g (by simp;omega)
theorem zWq(s:JV)(D:s.length<=65536)(hd:∀c∈s,48<=c/\c<=57)(n:Nat)(E:n<=1099511627776):∀(f i x:Nat),i<=s.length->s.length-i<f->zTz x (s.drop i)=n →
  zD5 f (x:Int) (ofNat (s.map λb=>AV.int .u8 (ofNat b)).length) (ofNat i) (s.map λb=>AV.int .u8 (ofNat b))=some (.qd [.int .i64 (n:Int),.bool true]):=by
 intro f
 induction f with
 |zero=>intro i x _ h;omega
 |succ f z=>
  intro i x hi C hv;refine zD2 ?_
  rw[zOd];refine Wc (λg=>?_) λj=>?_
  .have g:i<s.length:=by rw[QG,qr,qr]at g;omega
   obtain⟨c0,B⟩:=hd _ (Qg g);rw[Qo g]at hv;have hv:zTz (10*x+(s[i]-48)) (s.drop (i+1))=n:=hv;have A:=zW0 (s.drop (i+1)) (10*x+(s[i]-48));refine zZn g (zV4 (zPA g) (Wc (λh=>?_) λ_=>Wc (λh=>?_) λ_=>?_))
   .rw[qr]at h;omega
   .rw[qr]at h;omega
   .generalize s[i]=c at *;rw[zOU];have e1:wrapx .i64 (10*(x:Int))=((10*x:Nat):Int):=by rw[zI (by omega) (by omega)];omega
    have e2:wrapx .u8 (ofNat c-48)=((c-48:Nat):Int):=by
     have:ofNat c-48=ofNat (c-48):=by rw[qr,qr];omega
     rw[this];have l:c-48<10:=by omega
     generalize c-48=d at l
     match d,l with
     |0,_|1,_|2,_|3,_|4,_|5,_|6,_|7,_|8,_|9,_=>rfl
    have e3:wrapx .i64 (((c-48:Nat):Int))=((c-48:Nat):Int):=zI (by omega) (by omega)
    have e4:wrapx .i64 (((10*x:Nat):Int)+((c-48:Nat):Int))=((10*x+(c-48):Nat):Int):=by rw[zI (by omega) (by omega)];omega
    rw[e1,e2,e3,e4,if_neg (by omega),zm (by omega)]
    exact⟨_,z (i+1) _ g (by omega) hv,rfl⟩
  .have j:s.length<=i:=by rw[QG,qr,qr]at j;omega
   rw[List.drop_eq_nil_of_le j]at hv;have hv:x=n:=hv;subst hv;refine Wb ?_
   rw[Qc (by omega:(x:Int)<=1099511627776)]
theorem zEC(n:Nat)(h1:1<=n)(hm:n<=1099511627776):z4 (dec n)=some (.qd [.int .i64 (n:Int),.bool true]):=by
 obtain⟨hd,⟨d,r,j,g⟩,hv⟩:=zRv n;have hl:=zGq n (by omega)
 have l:zEM (dec n)=some (.qd [.int .i64 (n:Int),.bool true]):=by
  rw[zOV];exact zWq (dec n) (by omega) hd n hm FUEL 0 0 (QN _) (zD (by omega)) hv
 refine zD2 ?_
 rw[zRO];refine Wa (λh=>?_) λ_=>?_
 .rw[j]at h;cases h
 .refine Wp.bd (R:=λc=>c=d) ⟨d,by rw[j];rfl,rfl⟩ λc hc=>?_
  subst hc;refine Wa (λh=>?_) λ_=>⟨_,l,rfl⟩
  exfalso
  have:=g h1;have h:(ofNat c==48)=true:=h;rw[beq_iff_eq,qr]at h;omega
section
variable{line:JV}{P:AV->Prop}{f i fr q:Nat}{a b:Int}{ws:List Wd}
noncomputable abbrev CL(line:JV)(f st fr q i:Nat)(a b:Int)(ws:List Wd):JF:=zGv f line 0 (ofNat st) (ofNat fr) (ofNat q) (ofNat line.length) (ofNat i) a b (wds 0 ws)
theorem beqN{x y:Nat}:((ofNat x==ofNat y)=true)↔x=y:=by
 rw[beq_iff_eq];exact Int.ofNat_inj
theorem zSD{x y:Nat}:((ofNat x==ofNat y)=false)↔x≠y:=by
 rw[beq_eq_false_iff_ne];exact not_congr Int.ofNat_inj
theorem zKO(hi:i<line.length){st:Nat}(k:Wp (zDA f line 0 (ofNat st) (ofNat fr) (ofNat q) (ofNat line.length) (ofNat i) (ofNat line[i]) a b (wds 0 ws)) P):Wp (CL line (f+1) st fr q i a b ws) P:=by
 unfold CL;rw[zG2];refine Wc (λ_=>Wc (λ_=>?_) λh=>absurd (Int.ofNat_lt.2 hi) h) λh=>absurd (Qv.2 (Qe hi)) h
 exact Wp.bd (R:=λc=>c=line[i]) ⟨_,zA2 hi,rfl⟩ λc hc=>by subst hc;exact k
theorem zQs(hl:line.length<=65536)(hi:i<=line.length){st:Nat}(k:Wp (CL line f st fr q (i+1) a b ws) P):Wp (zBt f line 0 (ofNat st) (ofNat fr) (ofNat q) (ofNat line.length) (ofNat i) a b (wds 0 ws)) P:=by
 rw[zRL,zm (by omega)]
 exact k
theorem zZz{c n:Nat}(h:ofNat c<(n:Int)):c<n:=Int.ofNat_lt.1 h
theorem zX1(hl:line.length<=65536)(hi:i<=line.length){c:Nat}{st:Nat}(h1:33<=c)(h2:c<=126)
  (k:Wp (zHy f line 0 (ofNat st) (ofNat fr) (ofNat q) (ofNat line.length) (ofNat i) (ofNat c) false (ofNat 5) (wrapx .i64 (0+ofNat i)) a b (wds 0 ws)) P) (g:st≠2):
  Wp (zDA f line 0 (ofNat st) (ofNat fr) (ofNat q) (ofNat line.length) (ofNat i) (ofNat c) a b (wds 0 ws)) P:=by
 rw[zEP];refine Wa (λh=>absurd (beqN.1 h) g) λ_=>Wa (λh=>?_) λ_=>Wc (λh=>?_) λ_=>?_
 .have:=(beqN (y:=32)).1 h;omega
 .have:=zZz (n:=33) h;omega
 .rw[Qd (by rw[qr];omega)]
  exact k
theorem zfo(hl:line.length<=65536)(hi:i<line.length)(h1:33<=line[i])(h2:line[i]<=126)(h3:line[i]≠34)(k:Wp (CL line f 1 fr q (i+1) a b ws) P):Wp (CL line (f+1) 1 fr q i a b ws) P:=by
 refine zKO hi (zX1 hl (Qe hi) h1 h2 ?_ (by decide))
 rw[zHO];refine Wa (λh=>by cases h) λ_=>Wa (λh=>absurd ((beqN (y:=0)).1 h) (by decide)) λ_=>Wa (λh=>absurd ((beqN (y:=3)).1 h) (by decide)) λ_=>Wa (λh=>absurd ((beqN (y:=34)).1 h) h3) λ_=>zQs hl (Qe hi) k
theorem zVD(hl:line.length<=65536)(hi:i<line.length)(h1:33<=line[i])(h2:line[i]<=126)(h3:line[i]≠34)(k:Wp (CL line f 1 i q (i+1) a b ws) P):Wp (CL line (f+1) 0 fr q i a b ws) P:=by
 refine zKO hi (zX1 hl (Qe hi) h1 h2 ?_ (by decide))
 rw[zHO];exact Wa (λh=>by cases h) λ_=>Wa (λ_=>Wa (λh=>absurd ((beqN (y:=34)).1 h) h3) λ_=>zQs hl (Qe hi) k) λh=>absurd rfl ((zSD (y:=0)).1 h)
theorem zZA(hl:line.length<=65536)(hi:i<line.length)(h1:32<=line[i])(h2:line[i]<=126)(h3:line[i]≠34)(k:Wp (CL line f 2 fr q (i+1) a b ws) P):Wp (CL line (f+1) 2 fr q i a b ws) P:=by
 refine zKO hi ?_
 rw[zEP];refine Wa (λ_=>Wa (λh=>?_) λ_=>Wa (λh=>absurd ((beqN (y:=34)).1 h) h3) λ_=>Wc (λh=>?_) λ_=>?_) λh=>absurd rfl ((zSD (y:=2)).1 h)
 .have:=beqN.1 h;omega
 .have:=zZz (n:=32) h;omega
 .rw[Qd (by rw[qr];omega),zRM]
  exact Wa (λh=>by cases h) λ_=>zQs hl (Qe hi) k
theorem zaP(hl:line.length<=65536)(hi:i<line.length)(h3:line[i]=34)(k:Wp (CL line f 3 fr q (i+1) a b ws) P):Wp (CL line (f+1) 2 fr q i a b ws) P:=by
 refine zKO hi ?_
 rw[zEP];refine Wa (λ_=>Wa (λh=>?_) λ_=>Wa (λ_=>zQs hl (Qe hi) k) λh=>absurd h3 ((zSD (y:=34)).1 h)) λh=>absurd rfl ((zSD (y:=2)).1 h)
 have:=beqN.1 h;omega
theorem zPG:∀(l:List UInt8)(c:UInt8)(r:List UInt8),c ∉ l->Lib.indexByte (l++c::r) c=(l.length:Int)
 |[],c,r,_=>by simp[Lib.indexByte]
 |x::l,c,r,h=>by
  have j:=zPG l c r λg=>h (.tail _ g)
  have s:(x==c)=false:=by
   rw[beq_eq_false_iff_ne]
   rintro rfl
   exact h (.head _)
  simp only[List.cons_append,Lib.indexByte,s,j];have:((l.length:Int)==-1)=false:=by rw[beq_eq_false_iff_ne];omega
  simp only[this,QL];simp
theorem zPH:∀(l:List UInt8)(c:UInt8),c ∉ l->Lib.indexByte l c=-1
 |[],c,_=>rfl
 |x::l,c,h=>by
  have j:=zPH l c λg=>h (.tail _ g)
  have s:(x==c)=false:=by
   rw[beq_eq_false_iff_ne]
   rintro rfl
   exact h (.head _)
  simp only[Lib.indexByte,s,j];rfl
theorem zfp{x c:Nat}(h1:x<256)(h2:c<256)(h:x≠c):UInt8.ofNat x≠UInt8.ofNat c:=λe=>h (by
 have:=congrArg UInt8.toNat e;rw[UInt8.toNat_ofNat',UInt8.toNat_ofNat']at this;omega)
theorem zSE{l:JV}{c:Nat}(h1:∀x∈l,x<256)(h2:c<256)(h:c ∉ l):UInt8.ofNat c ∉ l.map UInt8.ofNat:=λj=>by
 obtain⟨x,g,e⟩:=QR.1 j;exact zfp (h1 x g) h2 (λe=>h (e▸g)) e
theorem zex{l:JV}{c:Nat}(h1:∀x∈l,x<256)(h2:c<256)(h:c ∉ l):zBp l (ofNat c)=some (.int .i64 (-1)):=by
 show some (AV.int .i64 (Lib.indexByte (l.map UInt8.ofNat) (UInt8.ofNat c)))=_
 rw[zPH _ _ (zSE h1 h2 h)]
theorem zey{l r:JV}{c:Nat}(h1:∀x∈l,x<256)(h2:c<256)(h:c ∉ l):zBp (l++c::r) (ofNat c)=some (.int .i64 (ofNat l.length)):=by
 show some (AV.int .i64 (Lib.indexByte ((l++c::r).map UInt8.ofNat) (UInt8.ofNat c)))=_
 rw[Qu,QZ,zPG _ _ _ (zSE h1 h2 h),QG];rfl
theorem zc4(hl:line.length<=65536)(hi:i<line.length)(h3:line[i]=34){key:JV}(z:(line.take i).drop fr=key++[61])(l:fr<i)(s:∀x∈key,x<256)(j:61 ∉ key)(k:Wp (CL line f 2 fr i (i+1) a b ws) P):Wp (CL line (f+1) 1 fr q i a b ws) P:=by
 have A:key.length+1=i-fr:=by
  have:=congrArg List.length z;rw[Qn,Qj,Nat.min_eq_left (Qe hi),QE]at this
  simpa using this.symm
 have g:line[i-1]?=some 61:=by
  have h0:((line.take i).drop fr)[key.length]?=some 61:=by rw[z];simp
  rw[List.getElem?_drop,List.getElem?_take]at h0;have e:fr+key.length=i-1:=by omega
  rw[e,if_pos (by omega)]at h0
  exact h0
 refine zKO hi (zX1 hl (Qe hi) (by omega) (by omega) ?_ (by decide))
 rw[zHO];refine Wa (λh=>by cases h) λ_=>Wa (λh=>absurd ((beqN (y:=0)).1 h) (by decide)) λ_=>Wa (λh=>absurd ((beqN (y:=3)).1 h) (by decide)) λ_=>Wa (λ_=>?_) λh=>absurd h3 ((zSD (y:=34)).1 h)
 rw[zCq (by omega) (by omega)]
 refine Wp.bd (R:=λc=>c=61) ⟨61,g,rfl⟩ λc hc=>?_
 subst hc;refine Wa (λh=>by cases h) λ_=>We ⟨Ql _,Qv.2 (Qe l),Qv.2 (Qe hi)⟩ ?_
 have e1:List.drop (Int.toNat (ofNat fr)) (List.take (Int.toNat (ofNat i)) line)=key++[61]:=z;rw[e1];refine zCE (zey s (by decide) j) ?_
 have e2:wrapx .i64 (ofNat (i-1)-ofNat fr)=ofNat key.length:=by
  rw[zI (by rw[qr,qr];omega) (by rw[qr,qr];omega),qr,qr,qr]
  omega
 rw[e2];refine Wa (λh=>?_) λ_=>zQs hl (Qe hi) k
 simp at h
theorem zez(hl:line.length<=65536)(hi:i<=line.length)(h3:∀h:i<line.length,line[i]=32){st:Nat}(j:st=1\/st=3)(s:fr<=i)(x:ws.length<=i)(k:Wp (CL line f 0 fr q (i+1) a b (ws++[((line.take i).drop fr,(fr:Int))])) P):Wp (CL line (f+1) st fr q i a b ws) P:=by
 have g:Wp (zDA f line 0 (ofNat st) (ofNat fr) (ofNat q) (ofNat line.length) (ofNat i) (ofNat 32) a b (wds 0 ws)) P:=by
  rw[zEP];refine Wa (λh=>by have:=(beqN (y:=2)).1 h;omega) λ_=>Wa (λ_=>Wa (λ_=>?_) λh=>?_) λh=>by cases h
  .refine We ⟨Ql _,Qv.2 s,Qv.2 hi⟩ (We ?_ ?_)
   .have e:(chunks 2 1 [AV.str (List.drop (Int.toNat (ofNat fr)) (List.take (Int.toNat (ofNat i)) line)),AV.int .i64 (wrapx .i64 (0+ofNat fr))]).length=1:=rfl;rw[e,zM5];unfold zc;omega
   .have e0:wrapx .i64 (0+ofNat fr)=0+ofNat fr:=zI (by rw[qr];omega) (by rw[qr];omega)
    rw[e0];have e:wds 0 ws++chunks 2 1 (List.drop 0 (qm [AV.str [],AV.int .i64 0] 0 (AV.cells (AV.agg (qm (qm [AV.str [],AV.int .i64 0] 0 (AV.cells (AV.str (List.drop (Int.toNat (ofNat fr)) (List.take (Int.toNat (ofNat i)) line))))) 1 (AV.cells (AV.int .i64 (0+ofNat fr))))))))=wds 0 (ws++[((line.take i).drop fr,(fr:Int))]):=(zc3 0 ws _ _);rw[e];exact zQs hl hi k
  .exfalso
   rcases j with rfl|rfl<;>cases h
 by_cases h:i<line.length
 .refine zKO h ?_
  rw[h3 h];exact g
 .have e:i=line.length:=by omega
  unfold CL;rw[zG2];exact Wc (λ_=>Wc (λl=>absurd (Int.ofNat_lt.1 l) h) λ_=>g) λl=>absurd (Qv.2 hi) l
theorem zc5(k:P (.qd [.qf 2 (wds 0 ws),.agg [.int .i64 0,.int .i64 0]])){st:Nat}:Wp (CL line (f+1) st fr q (line.length+1) a b ws) P:=by
 unfold CL;rw[zG2];exact Wc (λh=>absurd (Qv.1 h) (by omega)) λ_=>Wb k
end
end Go.Proofs.YtjfcepbllmdfcaaGreatDoor.record
namespace Go.Proofs.YtjfcepbllmdfcaaGreatDoor.record
open Go Go.Sy
variable[MX]
def okW(c:Nat):Prop:=33<=c/\c<=126/\c≠34/\c≠35
def zZB(w:JV):Prop:=w≠[]/\∀c∈w,okW c
def zfq(w:JV):Prop:=∃key r,w=(key++[61])++(34::(r++[34]))/\zZB key/\61 ∉ key/\∀c∈r,zDv c
def zL6(w:JV):Prop:=zZB w\/zfq w
theorem zEx{l r:JV}{i c:Nat}(h:l.drop i=c::r):∃hi:i<l.length,l[i]=c/\l.drop (i+1)=r:=by
 have hi:i<l.length:=by
  rcases Nat.lt_or_ge i l.length with hi|hi
  .exact hi
  .rw[List.drop_eq_nil_of_le hi]at h;cases h
 rw[Qo hi]at h;injection h with h1 h2
 exact⟨hi,h1,h2⟩
section
variable{line:JV}{P:AV->Prop}{a b:Int}
theorem zTh(hl:line.length<=65536){fr q f:Nat}{ws:List Wd}{tail:JV}:∀(w:JV)(i:Nat),(∀c∈w,okW c)->line.drop i=w++tail->Wp (CL line f 1 fr q (i+w.length) a b ws) P->Wp (CL line (f+w.length) 1 fr q i a b ws) P
 |[],i,_,_,k=>k
 |c::w,i,hc,hd,k=>by
  obtain⟨hi,e1,e2⟩:=zEx hd;obtain⟨h1,h2,h3,_⟩:=hc c (.head _);refine zfo (f:=f+w.length) hl hi (by omega) (by omega) (by omega) (zTh hl w (i+1) (λx g=>hc x (.tail _ g)) e2 ?_)
  have e:i+1+w.length=i+(c::w).length:=by rw[QL];omega
  rw[e];exact k
theorem zRb(hl:line.length<=65536){fr q f:Nat}{ws:List Wd}{tail:JV}:∀(w:JV)(i:Nat),(∀c∈w,zDv c)->line.drop i=w++tail->Wp (CL line f 2 fr q (i+w.length) a b ws) P->Wp (CL line (f+w.length) 2 fr q i a b ws) P
 |[],i,_,_,k=>k
 |c::w,i,hc,hd,k=>by
  obtain⟨hi,e1,e2⟩:=zEx hd;obtain⟨h1,h2,h3,_⟩:=hc c (.head _);refine zZA (f:=f+w.length) hl hi (by omega) (by omega) (by omega) (zRb hl w (i+1) (λx g=>hc x (.tail _ g)) e2 ?_)
  have e:i+1+w.length=i+(c::w).length:=by rw[QL];omega
  rw[e];exact k
theorem zNP{l u v:JV}{i:Nat}(h:l.drop i=u++v):l.drop (i+u.length)=v:=by
 rw[←List.drop_drop,h,List.drop_left]
theorem zVE{l u v:JV}{i:Nat}(h:l.drop i=u++v):(l.take (i+u.length)).drop i=u:=by
 rw[List.drop_take,h];have:i+u.length-i=u.length:=by omega
 rw[this,List.take_left]
theorem zVF{l u v:JV}{i:Nat}(g:u≠[])(h:l.drop i=u++v):i+u.length+v.length=l.length:=by
 have:=congrArg List.length h;rw[Qn,QE]at this;have h0:0<u.length:=List.length_pos_iff.2 g;omega
theorem zT9(hl:line.length<=65536){fr q f i:Nat}{ws:List Wd}{w tail:JV}(M:zL6 w)(hd:line.drop i=w++tail)(Q:tail=[]\/∃r,tail=32::r)(O:ws.length<=i)
  (k:∀fr' A,Wp (CL line f 0 fr' A (i+w.length+1) a b (ws++[(w,(i:Int))])) P):Wp (CL line (f+w.length+1) 0 fr q i a b ws) P:=by
 have j:w≠[]:=by
  rcases M with h|⟨key,r,rfl,_⟩
  .exact h.1
  .simp
 have s:=zVF j hd;have stop:∀{B:Nat}{A:Nat},B=1\/B=3->Wp (CL line (f+1) B i A (i+w.length) a b ws) P:=λ{B A} F=>by
  refine zez hl (by omega) (λh=>?_) F (by omega) (by omega) ?_
  .rcases Q with rfl|⟨r,rfl⟩
   .simp at s;omega
   .have e:=zNP hd;obtain⟨_,e1,_⟩:=zEx e;exact e1
  .rw[zVE hd];exact k i A
 rcases M with⟨j,hc⟩|⟨key,r,rfl,⟨J,H⟩,E,hr⟩
 .cases w with
  |nil=>exact absurd rfl j
  |cons c w=>
   obtain⟨hi,e1,e2⟩:=zEx hd;obtain⟨h1,h2,h3,_⟩:=hc c (.head _);have e:f+(c::w).length+1=(f+1+w.length)+1:=by rw[QL];omega
   rw[e];refine zVD hl hi (by omega) (by omega) (by omega) (zTh hl w (i+1) (λx g=>hc x (.tail _ g)) e2 ?_)
   have T:i+1+w.length=i+(c::w).length:=by rw[QL];omega
   rw[T];exact stop (.inl rfl)
 .cases key with
  |nil=>exact absurd rfl J
  |cons c key=>
   have uD:line.drop i=c::((key++[61])++(34::(r++[34])++tail)):=by rw[hd];simp
   obtain⟨hi,e1,e2⟩:=zEx uD;obtain⟨h1,h2,h3,_⟩:=H c (.head _);have K:((c::key)++[61]++(34::(r++[34]))).length=key.length+r.length+4:=by simp only[QE,QL,Qp];omega
   have e:f+((c::key)++[61]++(34::(r++[34]))).length+1=((((f+1)+1)+r.length)+1+(key++[61]).length)+1:=by rw[K,QE];simp;omega
   rw[e];refine zVD hl hi (by omega) (by omega) (by omega) (zTh hl (key++[61]) (i+1) (λx g=>?_) e2 ?_)
   .rcases QI.1 g with g|g
    .exact H x (.tail _ g)
    .rw[QU.1 g];exact⟨by decide,by decide,by decide,by decide⟩
   have z:=zNP e2;have S:i+1+(key++[61]).length=i+((c::key)++[61]).length:=by simp;omega
   rw[S]at z⊢;obtain⟨D,f1,f2⟩:=zEx z;have C:line.drop i=((c::key)++[61])++(34::(r++[34])++tail):=by rw[hd];simp
   refine zc4 hl D f1 (key:=c::key) (zVE C) (by simp) (λx g=>by have:=(H x g).2.1;omega) E ?_
   have l:line.drop (i+((c::key)++[61]).length+1)=r++(34::tail):=by rw[f2];simp
   refine zRb hl r _ hr l ?_
   obtain⟨I,g1,g2⟩:=zEx (zNP l);refine zaP hl I g1 ?_
   have e5:i+((c::key)++[61]).length+1+r.length+1=i+((c::key)++[61]++(34::(r++[34]))).length:=by rw[K];simp;omega
   rw[e5];exact stop (.inr rfl)
theorem zKz(w:JV)(r:List JV):zAx [32] (w::r)=w++(r.map ([32]++·)).flatten:=rfl
theorem zNQ(hl:line.length<=65536):∀(W:List JV)(i f fr q:Nat)(ws:List Wd),W≠[]->(∀w∈W,zL6 w)->line.drop i=zAx [32] W->ws.length<=i →
  ∃us:List Wd,us.map Prod.fst=W/\Wp (CL line (f+(zAx [32] W).length+2) 0 fr q i a b ws) λv=>v=.qd [.qf 2 (wds 0 (ws++us)),.agg [.int .i64 0,.int .i64 0]]
 |[],_,_,_,_,_,h,_,_,_=>absurd rfl h
 |[w],i,f,fr,q,ws,_,C,hd,s=>by
  have hd:line.drop i=w++[]:=hd;have D:=C w (.head _);have l:w≠[]:=by
   rcases D with h|⟨key,r,rfl,_⟩
   .exact h.1
   .simp
  have j:=zVF l hd;simp only[Qp,Nat.add_zero]at j;refine⟨[(w,(i:Int))],rfl,?_⟩
  have e:f+(zAx [32] [w]).length+2=(f+1)+w.length+1:=by rw[zKz];simp;omega
  rw[e];refine zT9 hl D hd (.inl rfl) s λg A=>?_
  rw[j];exact zc5 (P:=λv=>v=AV.qd [AV.qf 2 (wds 0 (ws++[(w,(i:Int))])),AV.agg [AV.int .i64 0,AV.int .i64 0]]) rfl
 |w::x::r,i,f,fr,q,ws,_,C,hd,s=>by
  have I:zAx [32] (w::x::r)=w++(32::zAx [32] (x::r)):=by simp[zKz]
  rw[I]at hd;have D:=C w (.head _);have B:=(zEx (zNP hd)).2.2;have l:w≠[]:=by
   rcases D with h|⟨key,r,rfl,_⟩
   .exact h.1
   .simp
  have j:=zVF l hd;have h0:0<w.length:=List.length_pos_iff.2 l;obtain⟨us,h1,_⟩:=zNQ hl (x::r) (i+w.length+1) f 0 0 (ws++[(w,(i:Int))]) (by simp) (λy F=>C y (.tail _ F)) B (by rw[QE];simp;omega)
  have all:∀g A,∃us:List Wd,us.map Prod.fst=x::r/\Wp (CL line (f+(zAx [32] (x::r)).length+2) 0 g A (i+w.length+1) a b (ws++[(w,(i:Int))])) λv=>v=.qd [.qf 2 (wds 0 ((ws++[(w,(i:Int))])++us)),.agg [.int .i64 0,.int .i64 0]]:=λg A=>
   zNQ hl (x::r) (i+w.length+1) f g A (ws++[(w,(i:Int))]) (by simp) (λy F=>C y (.tail _ F)) B (by rw[QE];simp;omega)
  have e:f+(zAx [32] (w::x::r)).length+2=(f+(zAx [32] (x::r)).length+2)+w.length+1:=by rw[I,QE,QL];omega
  rw[e];have key:∃us:List Wd,us.map Prod.fst=w::x::r/\Wp (CL line (f+(zAx [32] (x::r)).length+2+w.length+1) 0 fr q i a b ws) λv=>∃us:List Wd,us.map Prod.fst=w::x::r/\v=.qd [.qf 2 (wds 0 (ws++us)),.agg [.int .i64 0,.int .i64 0]]:=by
   refine⟨(w,(i:Int))::us,by rw[QZ,h1],zT9 hl D hd (.inr ⟨_,rfl⟩) s λg A=>?_⟩
   obtain⟨z,E,H⟩:=all g A;exact H.mono λv hv=>⟨(w,(i:Int))::z,by rw[QZ,E],by rw[hv,QP];rfl⟩
  obtain⟨_,_,v,hv,z,E,H⟩:=key;exact⟨z,E,v,hv,H⟩
end
theorem zZC{c:Nat}:∀{W:List JV},c∈zAx [32] W->c=32\/∃w∈W,c∈w
 |[],h=>by cases h
 |w::r,h=>by
  rw[zKz]at h;rcases QI.1 h with h|h
  .exact .inr ⟨w,.head _,h⟩
  .obtain⟨y,g,hc⟩:=List.mem_flatten.1 h;obtain⟨x,j,rfl⟩:=QR.1 g;rcases QJ.1 hc with h|h
   .exact .inl h
   .exact .inr ⟨x,.tail _ j,h⟩
def okT(c:Nat):Prop:=32<=c/\c<=126/\c≠35
theorem zc6{w:JV}(g:zL6 w):∀c∈w,okT c:=λc hc=>by
 rcases g with⟨_,h⟩|⟨key,r,rfl,⟨_,j⟩,_,hr⟩
 .obtain⟨h1,h2,h3,h4⟩:=h c hc;exact⟨by omega,h2,h4⟩
 .rcases QI.1 hc with hc|hc
  .rcases QI.1 hc with hc|hc
   .obtain⟨h1,h2,h3,h4⟩:=j c hc;exact⟨by omega,h2,h4⟩
   .rw[QU.1 hc];exact⟨by decide,by decide,by decide⟩
  .rcases QJ.1 hc with rfl|hc
   .exact⟨by decide,by decide,by decide⟩
   .rcases QI.1 hc with hc|hc
    .obtain⟨h1,h2,h3,h4⟩:=hr c hc;exact⟨h1,h2,h4⟩
    .rw[QU.1 hc];exact⟨by decide,by decide,by decide⟩
theorem zW1{W:List JV}(h:∀w∈W,zL6 w):∀c∈zAx [32] W,okT c:=λc hc=>by
 rcases zZC hc with rfl|⟨w,g,hc⟩
 .exact⟨by decide,by decide,by decide⟩
 .exact zc6 (h w g) c hc
theorem zZD{W:List JV}(j:W≠[])(h:∀w∈W,zL6 w)(hl:(zAx [32] W).length<=65536):∃us:List Wd,us.map Prod.fst=W/\zIK (zAx [32] W) 0=some (.qd [.qf 2 (wds 0 us),.agg [.int .i64 0,.int .i64 0]]):=by
 have g:=zW1 h;have l:zJN (zAx [32] W)=some (.int .i64 (-1)):=by
  refine zD2 ?_
  rw[zRK];refine zCE (zex (λx A=>?_) (by decide) λs=>(g 35 s).2.2 rfl) (Wb rfl)
  have:=(g x A).2.1;omega
 have z:FUEL=(FUEL-((zAx [32] W).length+2))+(zAx [32] W).length+2:=by
  have:=zD (n:=(zAx [32] W).length+2) (by omega)
  omega
 obtain⟨us,h1,v,hv,rfl⟩:=zNQ (a:=0) (b:=0) hl W 0 (FUEL-((zAx [32] W).length+2)) 0 0 [] j h rfl (QB _);rw[←z]at hv;refine⟨us,h1,zD2 ?_⟩
 rw[zUm];refine zCE l (Wc (λh=>by omega) λ_=>?_)
 rw[zRN];exact⟨_,hv,rfl⟩
end Go.Proofs.YtjfcepbllmdfcaaGreatDoor.record
namespace Go.Proofs.YtjfcepbllmdfcaaGreatDoor.record
open Go Go.Sy
variable[MX]
theorem zW2(c:Nat)(v:JV):∀key:JV,c ∉ key->cut1 c (key++(c::v))=(key,v,true)
 |[],_=>by
  show cut1 c (c::v)=_
  unfold cut1;rw[zZm]
 |x::r,h=>by
  have j:=zW2 c v r λg=>h (.tail _ g)
  show cut1 c (x::(r++(c::v)))=_
  unfold cut1;have:Nat.beq x c=false:=by
   cases e:Nat.beq x c with
   |false=>rfl
   |true=>exact absurd (.head _) (zb e▸h)
  rw[this,j]
theorem zZE{key v:JV}(h:61 ∉ key)(hl:(key++(61::v)).length<=65536):zHx (key++(61::v)) [61]=some (.qd [.str key,.str v,.bool true]):=by
 show zV2 [.str (key++(61::v)),.str [61]]=_
 unfold zV2;simp only;have h1:Nat.blt (key++(61::v)).length 4294967281=true:=by rw[Qi];omega
 have h2:Nat.blt 61 256=true:=rfl;rw[h1,h2,zW2 61 v key h];rfl
theorem zBH{key v:JV}(h:61 ∉ key)(hl:(key++(61::v)).length<=65536)(hv:∀c∈v,c≠34):zAf (key++(61::v))=some (.qd [.str key,.str v,.bool true]):=by
 refine zD2 ?_
 rw[zMp];refine zBM (zZE h hl) ?_
 have g:Wp (zDJ key v true false) λx=>x=.qd [.str key,.str v,.bool true]:=by
  rw[zJG];refine Wa (λh=>by cases h) λ_=>?_
  rw[zJF];exact Wb rfl
 refine Wc (λh2=>?_) λ_=>g
 cases v with
 |nil=>exact absurd h2 (by decide)
 |cons c r=>
  refine Wp.bd (R:=λx=>x=c) ⟨c,rfl,rfl⟩ λx j=>?_
  subst j;exact Wa (λh=>absurd ((beqN (y:=34)).1 h) (hv x (.head _))) λ_=>g
theorem zX2{key r:JV}(h:61 ∉ key)(hl:(key++(61::(34::(r++[34])))).length<=65536):zAf (key++(61::(34::(r++[34]))))=some (.qd [.str key,.str r,.bool true]):=by
 refine zD2 ?_
 rw[zMp];refine zBM (zZE h hl) ?_
 have g:(34::(r++[34])).length=r.length+2:=by simp
 have hr:r.length<=65536:=by
  have:r.length<=(key++(61::(34::(r++[34])))).length:=by simp;omega
  omega
 refine Wc (λ_=>?_) λh=>absurd (show(2:Int)<=ofNat (34::(r++[34])).length by rw[g,qr];omega) h
 refine Wp.bd (R:=λx=>x=34) ⟨34,rfl,rfl⟩ λx j=>?_
 subst j;refine Wa (λ_=>?_) λh=>by cases h
 have e1:wrapx .i64 (ofNat (34::(r++[34])).length-1)=ofNat (r.length+1):=by
  rw[zCq (by rw[g];omega) (by rw[g];omega),g];rfl
 rw[e1];refine Wp.bd (R:=λx=>x=34) ⟨34,?_,rfl⟩ λx j=>?_
 .show(34::(r++[34]))[r.length+1]? = _
  simp
 .subst j;rw[zJG];refine Wa (λ_=>?_) λh=>by cases h
  rw[e1];refine We ⟨by decide,by rw[qr];omega,by rw[g,qr,qr];omega⟩ ?_
  rw[zJF];have e:List.drop (Int.toNat 1) (List.take (Int.toNat (ofNat (r.length+1))) (34::(r++[34])))=r:=by
   show List.drop 1 (List.take (r.length+1) (34::(r++[34])))=r
   simp
  rw[e];exact Wb rfl
theorem zCL(s:JV):∀ns:List JV,s ∉ ns->zCm false [Kd.s] (.str s) (.bool true) (zAz ns)=some (zAz (ns++[s]))
 |[],_=>rfl
 |t::r,h=>by
  have j:=zCL s r λx=>h (.tail _ x)
  have g:zi s t=false:=by
   cases e:zi s t with
   |false=>rfl
   |true=>exact absurd (.head _) (zAJ e▸h)
  have l:zi t s=false:=by
   cases e:zi t s with
   |false=>rfl
   |true=>exact absurd (.head _) (zAJ e▸h)
  unfold zAz at j⊢;have e:eqb Kd.s (.str s) (.str t)=some (zi s t):=rfl;simp only[QZ,List.cons_append,zCm,eqk,e,g,j]
theorem zEc(s:JV)(ns:List JV)(h:s ∉ ns):lkR false (AV.bool false) (zAE false [Kd.s] (.str s) (zAz ns))=some (.bool false):=by
 rw[zRa,if_neg h];rfl
section
variable{l0 us:JE}{N:Int}{f i:Nat}{k b c d x1 x2 x3 x4 ba:Int}{n u i_ v w:JV}{r:JE}{e0 e3 e4 e5 e7 e8 e9 e10 e12 g0 g1 p:Int}{e1 e2 e6:JV}{ns:List JV}{P:AV->Prop}
theorem zaQ{y:JV}(g:ofNat i<N)(x:i<1000000)(hi:ixN us (ofNat i)=some (.agg [.str ([117,115,101,114]++(61::w)),.int .i64 p]))(hv:zAf ([117,115,101,114]++(61::w))=some (.qd [.str [117,115,101,114],.str v,.bool true]))(j:[117,115,101,114] ∉ ns)(s:zd k [117,115,101,114]=some (.bool true))
  (hr:zDK k n u b c d i_ x1 x2 x3 x4 r ba v=some (.bool true,[(0,.cells false [.int .i64 k,.str n,.str y,.int .i64 b,.int .i64 c,.int .i64 d,.str i_,.int .i64 x1,.int .i64 x2,.int .i64 x3,.int .i64 x4,.qf 6 r,.int .i64 ba,.str v])],[]))
  (q:Wp (zg f l0 us N (ofNat (i+1)) k n y b c d i_ x1 x2 x3 x4 r ba v e0 e1 e2 e3 e4 e5 e6 e7 e8 e9 e10 e12 g0 g1 (zAz (ns++[[117,115,101,114]]))) P) {v0:JV}:Wp (zg (f+1) l0 us N (ofNat i) k n u b c d i_ x1 x2 x3 x4 r ba v0 e0 e1 e2 e3 e4 e5 e6 e7 e8 e9 e10 e12 g0 g1 (zAz ns)) P:=by
 rw[zU];refine Wc (λ_=>zBy hi (zBM hv (zFX zAv ?_))) λh=>absurd g h
 refine Wa (λ_=>?_) λh=>absurd h (by decide)
 refine Wa (λh=>by cases h) λ_=>qk_b (zEc _ ns j) (Wa (λh=>by cases h) λ_=>qk_b s ?_)
 rw[zQI];refine Wa (λh=>by cases h) λ_=>?_
 rw[zQH,zCL _ ns j];refine Wp.bd (R:=λm=>m=zAz (ns++[[117,115,101,114]])) ⟨_,rfl,rfl⟩ λm l=>?_
 subst l;refine zO hr (Wa (λh=>by cases h) λ_=>?_)
 rw[zm (by omega)]
 exact q
theorem zaR{y:Int}(g:ofNat i<N)(x:i<1000000)(hi:ixN us (ofNat i)=some (.agg [.str ([98,97,110,100]++(61::w)),.int .i64 p]))(hv:zAf ([98,97,110,100]++(61::w))=some (.qd [.str [98,97,110,100],.str v,.bool true]))(j:[98,97,110,100] ∉ ns)(s:zd k [98,97,110,100]=some (.bool true))
  (hr:zDL k n u b c d i_ x1 x2 x3 x4 r ba v=some (.bool true,[(0,.cells false [.int .i64 k,.str n,.str u,.int .i64 y,.int .i64 c,.int .i64 d,.str i_,.int .i64 x1,.int .i64 x2,.int .i64 x3,.int .i64 x4,.qf 6 r,.int .i64 ba,.str v])],[]))
  (q:Wp (zg f l0 us N (ofNat (i+1)) k n u y c d i_ x1 x2 x3 x4 r ba v e0 e1 e2 e3 e4 e5 e6 e7 e8 e9 e10 e12 g0 g1 (zAz (ns++[[98,97,110,100]]))) P) {v0:JV}:Wp (zg (f+1) l0 us N (ofNat i) k n u b c d i_ x1 x2 x3 x4 r ba v0 e0 e1 e2 e3 e4 e5 e6 e7 e8 e9 e10 e12 g0 g1 (zAz ns)) P:=by
 rw[zU];refine Wc (λ_=>zBy hi (zBM hv (zFX zAv ?_))) λh=>absurd g h
 refine Wa (λh=>absurd h (by decide)) λ_=>?_
 refine Wa (λ_=>?_) λh=>absurd h (by decide)
 refine Wa (λh=>by cases h) λ_=>qk_b (zEc _ ns j) (Wa (λh=>by cases h) λ_=>qk_b s ?_)
 rw[zQK];refine Wa (λh=>by cases h) λ_=>?_
 rw[zQJ,zCL _ ns j];refine Wp.bd (R:=λm=>m=zAz (ns++[[98,97,110,100]])) ⟨_,rfl,rfl⟩ λm l=>?_
 subst l;refine zO hr (Wa (λh=>by cases h) λ_=>?_)
 rw[zm (by omega)]
 exact q
theorem zZF{y:Int}(g:ofNat i<N)(x:i<1000000)(hi:ixN us (ofNat i)=some (.agg [.str ([99,111,117,110,116]++(61::w)),.int .i64 p]))(hv:zAf ([99,111,117,110,116]++(61::w))=some (.qd [.str [99,111,117,110,116],.str v,.bool true]))(j:[99,111,117,110,116] ∉ ns)(s:zd k [99,111,117,110,116]=some (.bool true))
  (hr:zDn k n u b c d i_ x1 x2 x3 x4 r ba v=some (.bool true,[(0,.cells false [.int .i64 k,.str n,.str u,.int .i64 b,.int .i64 y,.int .i64 d,.str i_,.int .i64 x1,.int .i64 x2,.int .i64 x3,.int .i64 x4,.qf 6 r,.int .i64 ba,.str v])],[]))
  (q:Wp (zg f l0 us N (ofNat (i+1)) k n u b y d i_ x1 x2 x3 x4 r ba v e0 e1 e2 e3 e4 e5 e6 e7 e8 e9 e10 e12 g0 g1 (zAz (ns++[[99,111,117,110,116]]))) P) {v0:JV}:Wp (zg (f+1) l0 us N (ofNat i) k n u b c d i_ x1 x2 x3 x4 r ba v0 e0 e1 e2 e3 e4 e5 e6 e7 e8 e9 e10 e12 g0 g1 (zAz ns)) P:=by
 rw[zU];refine Wc (λ_=>zBy hi (zBM hv (zFX zAv ?_))) λh=>absurd g h
 refine Wa (λh=>absurd h (by decide)) λ_=>?_
 refine Wa (λh=>absurd h (by decide)) λ_=>?_
 refine Wa (λ_=>?_) λh=>absurd h (by decide)
 refine Wa (λh=>by cases h) λ_=>qk_b (zEc _ ns j) (Wa (λh=>by cases h) λ_=>qk_b s ?_)
 rw[zQM];refine Wa (λh=>by cases h) λ_=>?_
 rw[zQL,zCL _ ns j];refine Wp.bd (R:=λm=>m=zAz (ns++[[99,111,117,110,116]])) ⟨_,rfl,rfl⟩ λm l=>?_
 subst l;refine zO hr (Wa (λh=>by cases h) λ_=>?_)
 rw[zm (by omega)]
 exact q
theorem zaS{y:Int}(g:ofNat i<N)(x:i<1000000)(hi:ixN us (ofNat i)=some (.agg [.str ([100,111,119,110]++(61::w)),.int .i64 p]))(hv:zAf ([100,111,119,110]++(61::w))=some (.qd [.str [100,111,119,110],.str v,.bool true]))(j:[100,111,119,110] ∉ ns)(s:zd k [100,111,119,110]=some (.bool true))
  (hr:zDM k n u b c d i_ x1 x2 x3 x4 r ba v=some (.bool true,[(0,.cells false [.int .i64 k,.str n,.str u,.int .i64 b,.int .i64 c,.int .i64 y,.str i_,.int .i64 x1,.int .i64 x2,.int .i64 x3,.int .i64 x4,.qf 6 r,.int .i64 ba,.str v])],[]))
  (q:Wp (zg f l0 us N (ofNat (i+1)) k n u b c y i_ x1 x2 x3 x4 r ba v e0 e1 e2 e3 e4 e5 e6 e7 e8 e9 e10 e12 g0 g1 (zAz (ns++[[100,111,119,110]]))) P) {v0:JV}:Wp (zg (f+1) l0 us N (ofNat i) k n u b c d i_ x1 x2 x3 x4 r ba v0 e0 e1 e2 e3 e4 e5 e6 e7 e8 e9 e10 e12 g0 g1 (zAz ns)) P:=by
 rw[zU];refine Wc (λ_=>zBy hi (zBM hv (zFX zAv ?_))) λh=>absurd g h
 refine Wa (λh=>absurd h (by decide)) λ_=>?_
 refine Wa (λh=>absurd h (by decide)) λ_=>?_
 refine Wa (λh=>absurd h (by decide)) λ_=>?_
 refine Wa (λ_=>?_) λh=>absurd h (by decide)
 refine Wa (λh=>by cases h) λ_=>qk_b (zEc _ ns j) (Wa (λh=>by cases h) λ_=>qk_b s ?_)
 rw[zQO];refine Wa (λh=>by cases h) λ_=>?_
 rw[zQN,zCL _ ns j];refine Wp.bd (R:=λm=>m=zAz (ns++[[100,111,119,110]])) ⟨_,rfl,rfl⟩ λm l=>?_
 subst l;refine zO hr (Wa (λh=>by cases h) λ_=>?_)
 rw[zm (by omega)]
 exact q
theorem zeA{y:JV}(g:ofNat i<N)(x:i<1000000)(hi:ixN us (ofNat i)=some (.agg [.str ([105,110]++(61::w)),.int .i64 p]))(hv:zAf ([105,110]++(61::w))=some (.qd [.str [105,110],.str v,.bool true]))(j:[105,110] ∉ ns)(s:zd k [105,110]=some (.bool true))
  (hr:zEN k n u b c d i_ x1 x2 x3 x4 r ba v=some (.bool true,[(0,.cells false [.int .i64 k,.str n,.str u,.int .i64 b,.int .i64 c,.int .i64 d,.str y,.int .i64 x1,.int .i64 x2,.int .i64 x3,.int .i64 x4,.qf 6 r,.int .i64 ba,.str v])],[]))
  (q:Wp (zg f l0 us N (ofNat (i+1)) k n u b c d y x1 x2 x3 x4 r ba v e0 e1 e2 e3 e4 e5 e6 e7 e8 e9 e10 e12 g0 g1 (zAz (ns++[[105,110]]))) P) {v0:JV}:Wp (zg (f+1) l0 us N (ofNat i) k n u b c d i_ x1 x2 x3 x4 r ba v0 e0 e1 e2 e3 e4 e5 e6 e7 e8 e9 e10 e12 g0 g1 (zAz ns)) P:=by
 rw[zU];refine Wc (λ_=>zBy hi (zBM hv (zFX zAv ?_))) λh=>absurd g h
 refine Wa (λh=>absurd h (by decide)) λ_=>?_
 refine Wa (λh=>absurd h (by decide)) λ_=>?_
 refine Wa (λh=>absurd h (by decide)) λ_=>?_
 refine Wa (λh=>absurd h (by decide)) λ_=>?_
 refine Wa (λ_=>?_) λh=>absurd h (by decide)
 refine Wa (λh=>by cases h) λ_=>qk_b (zEc _ ns j) (Wa (λh=>by cases h) λ_=>qk_b s ?_)
 rw[zPS];refine Wa (λh=>by cases h) λ_=>?_
 rw[zPR,zCL _ ns j];refine Wp.bd (R:=λm=>m=zAz (ns++[[105,110]])) ⟨_,rfl,rfl⟩ λm l=>?_
 subst l;refine zO hr (Wa (λh=>by cases h) λ_=>?_)
 rw[zm (by omega)]
 exact q
theorem zc7{y:Int}(g:ofNat i<N)(x:i<1000000)(hi:ixN us (ofNat i)=some (.agg [.str ([99,112,117]++(61::w)),.int .i64 p]))(hv:zAf ([99,112,117]++(61::w))=some (.qd [.str [99,112,117],.str v,.bool true]))(j:[99,112,117] ∉ ns)(s:zd k [99,112,117]=some (.bool true))
  (hr:zD6 k n u b c d i_ x1 x2 x3 x4 r ba v=some (.bool true,[(0,.cells false [.int .i64 k,.str n,.str u,.int .i64 b,.int .i64 c,.int .i64 d,.str i_,.int .i64 y,.int .i64 x2,.int .i64 x3,.int .i64 x4,.qf 6 r,.int .i64 ba,.str v])],[]))
  (q:Wp (zg f l0 us N (ofNat (i+1)) k n u b c d i_ y x2 x3 x4 r ba v e0 e1 e2 e3 e4 e5 e6 e7 e8 e9 e10 e12 g0 g1 (zAz (ns++[[99,112,117]]))) P) {v0:JV}:Wp (zg (f+1) l0 us N (ofNat i) k n u b c d i_ x1 x2 x3 x4 r ba v0 e0 e1 e2 e3 e4 e5 e6 e7 e8 e9 e10 e12 g0 g1 (zAz ns)) P:=by
 rw[zU];refine Wc (λ_=>zBy hi (zBM hv (zFX zAv ?_))) λh=>absurd g h
 refine Wa (λh=>absurd h (by decide)) λ_=>?_
 refine Wa (λh=>absurd h (by decide)) λ_=>?_
 refine Wa (λh=>absurd h (by decide)) λ_=>?_
 refine Wa (λh=>absurd h (by decide)) λ_=>?_
 refine Wa (λh=>absurd h (by decide)) λ_=>?_
 refine Wa (λ_=>?_) λh=>absurd h (by decide)
 refine Wa (λh=>by cases h) λ_=>qk_b (zEc _ ns j) (Wa (λh=>by cases h) λ_=>qk_b s ?_)
 rw[zPU];refine Wa (λh=>by cases h) λ_=>?_
 rw[zPT,zCL _ ns j];refine Wp.bd (R:=λm=>m=zAz (ns++[[99,112,117]])) ⟨_,rfl,rfl⟩ λm l=>?_
 subst l;refine zO hr (Wa (λh=>by cases h) λ_=>?_)
 rw[zm (by omega)]
 exact q
theorem zc8{y:Int}(g:ofNat i<N)(x:i<1000000)(hi:ixN us (ofNat i)=some (.agg [.str ([114,97,109]++(61::w)),.int .i64 p]))(hv:zAf ([114,97,109]++(61::w))=some (.qd [.str [114,97,109],.str v,.bool true]))(j:[114,97,109] ∉ ns)(s:zd k [114,97,109]=some (.bool true))
  (hr:zD7 k n u b c d i_ x1 x2 x3 x4 r ba v=some (.bool true,[(0,.cells false [.int .i64 k,.str n,.str u,.int .i64 b,.int .i64 c,.int .i64 d,.str i_,.int .i64 x1,.int .i64 y,.int .i64 x3,.int .i64 x4,.qf 6 r,.int .i64 ba,.str v])],[]))
  (q:Wp (zg f l0 us N (ofNat (i+1)) k n u b c d i_ x1 y x3 x4 r ba v e0 e1 e2 e3 e4 e5 e6 e7 e8 e9 e10 e12 g0 g1 (zAz (ns++[[114,97,109]]))) P) {v0:JV}:Wp (zg (f+1) l0 us N (ofNat i) k n u b c d i_ x1 x2 x3 x4 r ba v0 e0 e1 e2 e3 e4 e5 e6 e7 e8 e9 e10 e12 g0 g1 (zAz ns)) P:=by
 rw[zU];refine Wc (λ_=>zBy hi (zBM hv (zFX zAv ?_))) λh=>absurd g h
 refine Wa (λh=>absurd h (by decide)) λ_=>?_
 refine Wa (λh=>absurd h (by decide)) λ_=>?_
 refine Wa (λh=>absurd h (by decide)) λ_=>?_
 refine Wa (λh=>absurd h (by decide)) λ_=>?_
 refine Wa (λh=>absurd h (by decide)) λ_=>?_
 refine Wa (λh=>absurd h (by decide)) λ_=>?_
 refine Wa (λ_=>?_) λh=>absurd h (by decide)
 refine Wa (λh=>by cases h) λ_=>qk_b (zEc _ ns j) (Wa (λh=>by cases h) λ_=>qk_b s ?_)
 rw[zPW];refine Wa (λh=>by cases h) λ_=>?_
 rw[zPV,zCL _ ns j];refine Wp.bd (R:=λm=>m=zAz (ns++[[114,97,109]])) ⟨_,rfl,rfl⟩ λm l=>?_
 subst l;refine zO hr (Wa (λh=>by cases h) λ_=>?_)
 rw[zm (by omega)]
 exact q
theorem zaT{y:Int}(g:ofNat i<N)(x:i<1000000)(hi:ixN us (ofNat i)=some (.agg [.str ([100,105,115,107]++(61::w)),.int .i64 p]))(hv:zAf ([100,105,115,107]++(61::w))=some (.qd [.str [100,105,115,107],.str v,.bool true]))(j:[100,105,115,107] ∉ ns)(s:zd k [100,105,115,107]=some (.bool true))
  (hr:zDN k n u b c d i_ x1 x2 x3 x4 r ba v=some (.bool true,[(0,.cells false [.int .i64 k,.str n,.str u,.int .i64 b,.int .i64 c,.int .i64 d,.str i_,.int .i64 x1,.int .i64 x2,.int .i64 y,.int .i64 x4,.qf 6 r,.int .i64 ba,.str v])],[]))
  (q:Wp (zg f l0 us N (ofNat (i+1)) k n u b c d i_ x1 x2 y x4 r ba v e0 e1 e2 e3 e4 e5 e6 e7 e8 e9 e10 e12 g0 g1 (zAz (ns++[[100,105,115,107]]))) P) {v0:JV}:Wp (zg (f+1) l0 us N (ofNat i) k n u b c d i_ x1 x2 x3 x4 r ba v0 e0 e1 e2 e3 e4 e5 e6 e7 e8 e9 e10 e12 g0 g1 (zAz ns)) P:=by
 rw[zU];refine Wc (λ_=>zBy hi (zBM hv (zFX zAv ?_))) λh=>absurd g h
 refine Wa (λh=>absurd h (by decide)) λ_=>?_
 refine Wa (λh=>absurd h (by decide)) λ_=>?_
 refine Wa (λh=>absurd h (by decide)) λ_=>?_
 refine Wa (λh=>absurd h (by decide)) λ_=>?_
 refine Wa (λh=>absurd h (by decide)) λ_=>?_
 refine Wa (λh=>absurd h (by decide)) λ_=>?_
 refine Wa (λh=>absurd h (by decide)) λ_=>?_
 refine Wa (λ_=>?_) λh=>absurd h (by decide)
 refine Wa (λh=>by cases h) λ_=>qk_b (zEc _ ns j) (Wa (λh=>by cases h) λ_=>qk_b s ?_)
 rw[zPY];refine Wa (λh=>by cases h) λ_=>?_
 rw[zPX,zCL _ ns j];refine Wp.bd (R:=λm=>m=zAz (ns++[[100,105,115,107]])) ⟨_,rfl,rfl⟩ λm l=>?_
 subst l;refine zO hr (Wa (λh=>by cases h) λ_=>?_)
 rw[zm (by omega)]
 exact q
theorem zZG{y:Int}(g:ofNat i<N)(x:i<1000000)(hi:ixN us (ofNat i)=some (.agg [.str ([112,111,114,116,115]++(61::w)),.int .i64 p]))(hv:zAf ([112,111,114,116,115]++(61::w))=some (.qd [.str [112,111,114,116,115],.str v,.bool true]))(j:[112,111,114,116,115] ∉ ns)(s:zd k [112,111,114,116,115]=some (.bool true))
  (hr:zDo k n u b c d i_ x1 x2 x3 x4 r ba v=some (.bool true,[(0,.cells false [.int .i64 k,.str n,.str u,.int .i64 b,.int .i64 c,.int .i64 d,.str i_,.int .i64 x1,.int .i64 x2,.int .i64 x3,.int .i64 y,.qf 6 r,.int .i64 ba,.str v])],[]))
  (q:Wp (zg f l0 us N (ofNat (i+1)) k n u b c d i_ x1 x2 x3 y r ba v e0 e1 e2 e3 e4 e5 e6 e7 e8 e9 e10 e12 g0 g1 (zAz (ns++[[112,111,114,116,115]]))) P) {v0:JV}:Wp (zg (f+1) l0 us N (ofNat i) k n u b c d i_ x1 x2 x3 x4 r ba v0 e0 e1 e2 e3 e4 e5 e6 e7 e8 e9 e10 e12 g0 g1 (zAz ns)) P:=by
 rw[zU];refine Wc (λ_=>zBy hi (zBM hv (zFX zAv ?_))) λh=>absurd g h
 refine Wa (λh=>absurd h (by decide)) λ_=>?_
 refine Wa (λh=>absurd h (by decide)) λ_=>?_
 refine Wa (λh=>absurd h (by decide)) λ_=>?_
 refine Wa (λh=>absurd h (by decide)) λ_=>?_
 refine Wa (λh=>absurd h (by decide)) λ_=>?_
 refine Wa (λh=>absurd h (by decide)) λ_=>?_
 refine Wa (λh=>absurd h (by decide)) λ_=>?_
 refine Wa (λh=>absurd h (by decide)) λ_=>?_
 refine Wa (λ_=>?_) λh=>absurd h (by decide)
 refine Wa (λh=>by cases h) λ_=>qk_b (zEc _ ns j) (Wa (λh=>by cases h) λ_=>qk_b s ?_)
 rw[zP0];refine Wa (λh=>by cases h) λ_=>?_
 rw[zPZ,zCL _ ns j];refine Wp.bd (R:=λm=>m=zAz (ns++[[112,111,114,116,115]])) ⟨_,rfl,rfl⟩ λm l=>?_
 subst l;refine zO hr (Wa (λh=>by cases h) λ_=>?_)
 rw[zm (by omega)]
 exact q
theorem zaU{y:JE}(g:ofNat i<N)(x:i<1000000)(hi:ixN us (ofNat i)=some (.agg [.str ([114,117,108,101]++(61::w)),.int .i64 p]))(hv:zAf ([114,117,108,101]++(61::w))=some (.qd [.str [114,117,108,101],.str v,.bool true]))(j:[114,117,108,101] ∉ ns)(s:zd k [114,117,108,101]=some (.bool true))
  (hr:zDO k n u b c d i_ x1 x2 x3 x4 r ba v=some (.bool true,[(0,.cells false [.int .i64 k,.str n,.str u,.int .i64 b,.int .i64 c,.int .i64 d,.str i_,.int .i64 x1,.int .i64 x2,.int .i64 x3,.int .i64 x4,.qf 6 y,.int .i64 ba,.str v])],[]))
  (q:Wp (zg f l0 us N (ofNat (i+1)) k n u b c d i_ x1 x2 x3 x4 y ba v e0 e1 e2 e3 e4 e5 e6 e7 e8 e9 e10 e12 g0 g1 (zAz (ns++[[114,117,108,101]]))) P) {v0:JV}:Wp (zg (f+1) l0 us N (ofNat i) k n u b c d i_ x1 x2 x3 x4 r ba v0 e0 e1 e2 e3 e4 e5 e6 e7 e8 e9 e10 e12 g0 g1 (zAz ns)) P:=by
 rw[zU];refine Wc (λ_=>zBy hi (zBM hv (zFX zAv ?_))) λh=>absurd g h
 refine Wa (λh=>absurd h (by decide)) λ_=>?_
 refine Wa (λh=>absurd h (by decide)) λ_=>?_
 refine Wa (λh=>absurd h (by decide)) λ_=>?_
 refine Wa (λh=>absurd h (by decide)) λ_=>?_
 refine Wa (λh=>absurd h (by decide)) λ_=>?_
 refine Wa (λh=>absurd h (by decide)) λ_=>?_
 refine Wa (λh=>absurd h (by decide)) λ_=>?_
 refine Wa (λh=>absurd h (by decide)) λ_=>?_
 refine Wa (λh=>absurd h (by decide)) λ_=>?_
 refine Wa (λ_=>?_) λh=>absurd h (by decide)
 refine Wa (λh=>by cases h) λ_=>qk_b (zEc _ ns j) (Wa (λh=>by cases h) λ_=>qk_b s ?_)
 rw[zP2];refine Wa (λh=>by cases h) λ_=>?_
 rw[zP1,zCL _ ns j];refine Wp.bd (R:=λm=>m=zAz (ns++[[114,117,108,101]])) ⟨_,rfl,rfl⟩ λm l=>?_
 subst l;refine zO hr (Wa (λh=>by cases h) λ_=>?_)
 rw[zm (by omega)]
 exact q
theorem zZH{y:Int}(g:ofNat i<N)(x:i<1000000)(hi:ixN us (ofNat i)=some (.agg [.str ([98,97,116,99,104]++(61::w)),.int .i64 p]))(hv:zAf ([98,97,116,99,104]++(61::w))=some (.qd [.str [98,97,116,99,104],.str v,.bool true]))(j:[98,97,116,99,104] ∉ ns)(s:zd k [98,97,116,99,104]=some (.bool true))
  (hr:zDp k n u b c d i_ x1 x2 x3 x4 r ba v=some (.bool true,[(0,.cells false [.int .i64 k,.str n,.str u,.int .i64 b,.int .i64 c,.int .i64 d,.str i_,.int .i64 x1,.int .i64 x2,.int .i64 x3,.int .i64 x4,.qf 6 r,.int .i64 y,.str v])],[]))
  (q:Wp (zg f l0 us N (ofNat (i+1)) k n u b c d i_ x1 x2 x3 x4 r y v e0 e1 e2 e3 e4 e5 e6 e7 e8 e9 e10 e12 g0 g1 (zAz (ns++[[98,97,116,99,104]]))) P) {v0:JV}:Wp (zg (f+1) l0 us N (ofNat i) k n u b c d i_ x1 x2 x3 x4 r ba v0 e0 e1 e2 e3 e4 e5 e6 e7 e8 e9 e10 e12 g0 g1 (zAz ns)) P:=by
 rw[zU];refine Wc (λ_=>zBy hi (zBM hv (zFX zAv ?_))) λh=>absurd g h
 refine Wa (λh=>absurd h (by decide)) λ_=>?_
 refine Wa (λh=>absurd h (by decide)) λ_=>?_
 refine Wa (λh=>absurd h (by decide)) λ_=>?_
 refine Wa (λh=>absurd h (by decide)) λ_=>?_
 refine Wa (λh=>absurd h (by decide)) λ_=>?_
 refine Wa (λh=>absurd h (by decide)) λ_=>?_
 refine Wa (λh=>absurd h (by decide)) λ_=>?_
 refine Wa (λh=>absurd h (by decide)) λ_=>?_
 refine Wa (λh=>absurd h (by decide)) λ_=>?_
 refine Wa (λh=>absurd h (by decide)) λ_=>?_
 refine Wa (λ_=>?_) λh=>absurd h (by decide)
 refine Wa (λh=>by cases h) λ_=>qk_b (zEc _ ns j) (Wa (λh=>by cases h) λ_=>qk_b s ?_)
 rw[zP4];refine Wa (λh=>by cases h) λ_=>?_
 rw[zP3,zCL _ ns j];refine Wp.bd (R:=λm=>m=zAz (ns++[[98,97,116,99,104]])) ⟨_,rfl,rfl⟩ λm l=>?_
 subst l;refine zO hr (Wa (λh=>by cases h) λ_=>?_)
 rw[zm (by omega)]
 exact q
end
end Go.Proofs.YtjfcepbllmdfcaaGreatDoor.record
namespace Go.Proofs.YtjfcepbllmdfcaaGreatDoor.record
open Go Go.Sy
variable[MX]
theorem zVG{us0:List Wd}{A B:List JV}{w:JV}(h:us0.map Prod.fst=A++(w::B)):∃p,ixN (wds 0 us0) (ofNat A.length)=some (.agg [.str w,.int .i64 p])/\A.length<us0.length:=by
 have hl:=congrArg List.length h;rw[QG,QE,QL]at hl;have g:A.length<us0.length:=by omega
 have h1:(us0.map Prod.fst)[A.length]?=some w:=by rw[h];simp
 rw[Qb,QD g]at h1;have h1:us0[A.length].1=w:=by simpa using h1
 refine⟨0+us0[A.length].2,?_,g⟩
 show(wds 0 us0)[A.length]? = _
 unfold wds;rw[Qb,QD g,←h1];rfl
theorem opt{T:Type}{F:T->Nat->Nat->JV->List JV->JF}{z y1:T}{us0:List Wd}{A B:List JV}{key v w:JV}{P:AV->Prop}{cond:Bool}{L:List JV}(x:us0.map Prod.fst=A++((if cond=true then[key++(61::w)]else[])++B))(C:us0.length<=1000)(h0:cond=false->z=y1)
  (hyp:cond=true->∀f i ns v0 p,ofNat i<ofNat us0.length->i<1000000->ixN (wds 0 us0) (ofNat i)=some (.agg [.str (key++(61::w)),.int .i64 p])->key ∉ ns->Wp (F y1 f (i+1) v (ns++[key])) P->Wp (F z (f+1) i v0 ns) P) (D:key ∉ L)
  (q:∀f i ns v0,i=(A++(if cond=true then[key++(61::w)]else[])).length->us0.length-i<f->(∀s∈ns,s∈key::L)->Wp (F y1 f i v0 ns) P):
  ∀f i ns v0,i=A.length->us0.length-i<f->(∀s∈ns,s∈L)->Wp (F z f i v0 ns) P:=by
 intro f i ns v0 hi H g;cases cond with
 |false=>
  have:=h0 rfl;subst this;exact q f i ns v0 (by rw[hi];simp) H λs j=>.tail _ (g s j)
 |true=>
  obtain⟨p,E,l⟩:=zVG (w:=key++(61::w)) (by simpa using x)
  subst hi;cases f with
  |zero=>omega
  |succ f=>
   exact hyp rfl f A.length ns v0 p (Int.ofNat_lt.2 l) (by omega) E (λI=>D (g _ I)) (q f (A.length+1) _ v (by simp) (by omega) λs j=>by
    rcases QI.1 j with j|j
    .exact .tail _ (g s j)
    .rw[QU.1 j];exact .head _)
noncomputable abbrev LN(l0:JE)(us0:List Wd)(k:Int)(n u:JV)(b c d:Int)(i_:JV)(x1 x2 x3 x4:Int)(r:JE)(ba:Int)(f i:Nat)(v0:JV)(ns:List JV):JF:=zg f l0 (wds 0 us0) (ofNat us0.length) (ofNat i) k n u b c d i_ x1 x2 x3 x4 r ba v0 (ofNat 0) [] [] (ofNat 0) (ofNat 0) (ofNat 0) [] (ofNat 0) (ofNat 0) (ofNat 0) (ofNat 0) (ofNat 0) (ofNat 0) (ofNat 0) (zAz ns)
def nmC(c:Nat):Prop:=97<=c/\c<=122\/48<=c/\c<=57\/c=45
abbrev tt(G:Prop)(v:AV):Prop:=v=.bool true->G
abbrev zz(G:Prop)(v:AV):Prop:=v=.int .i64 0->G
theorem ff{G:Prop}:tt G (.bool false):=λh=>by cases h
theorem zbN{o:JF}{G:Prop}(h:Wp o (tt G))(e:o=some (.bool true)):G:=by
 obtain⟨v,g,k⟩:=h;rw[e]at g;cases g;exact k rfl
theorem zX3{o:JF}{G:Prop}(h:Wp o (zz G))(e:o=some (.int .i64 0)):G:=by
 obtain⟨v,g,k⟩:=h;rw[e]at g;cases g;exact k rfl
theorem zDF{s:JV}(h:zq s=some (.bool true)):s≠[]/\s.length<=16/\∀c∈s,nmC c:=by
 have z:=zVw h;refine zbN ?_ h
 have loop:∀(n i:Nat),i<=s.length->s.length-i<n->(∀j (g:j<s.length),j<i->nmC s[j])->Wp (zEe n (ofNat s.length) (ofNat i) (bytes s)) (tt (∀c∈s,nmC c)):=by
  intro n
  induction n with
  |zero=>intro i _ h;omega
  |succ n F=>
   intro i hi H hb;rw[zKb];refine Wp.lt (λh=>zZn h (zV4 (zPA h) ?_)) λD=>Wb λ_ c hc=>?_
   .have next:∀b,(b=false->nmC s[i])->Wp (zAK n (ofNat s.length) (ofNat i) b (bytes s)) (tt (∀c∈s,nmC c)):=λb B=>by
     rw[zKa];refine Wa (λ_=>Wb ff) λA=>?_
     rw[zm (by omega)]
     refine F (i+1) h (by omega) λj g E=>?_
     rcases Nat.lt_or_ge j i with C|C
     .exact hb j g C
     .obtain rfl:j=i:=by omega
      exact B A
    have d45:((ofNat s[i] != 45)=false)->nmC s[i]:=λh=>by
     have h:(s[i]:Int)=45:=by simpa using h
     exact .inr (.inr (by omega))
    refine Wc (λa=>?_) λa=>Wc (λb=>?_) λb=>next _ λ_=>.inl ?_
    .refine Wc (λb=>next _ d45) λb=>Wc (λc=>next _ d45) λc=>next _ λ_=>.inr (.inl ?_)
     rw[qr]at b c;omega
    .refine Wc (λb=>next _ d45) λb=>Wc (λc=>next _ d45) λc=>next _ λ_=>.inr (.inl ?_)
     rw[qr]at b c;omega
    .rw[qr]at a b;omega
   .obtain⟨j,g,rfl⟩:=List.getElem_of_mem hc;exact hb j g (by omega)
 have l:∀b,(b=false->s≠[])->Wp (zCc s b) (tt (s≠[]/\s.length<=16/\∀c∈s,nmC c)):=λb hb=>by
  rw[zGX];refine Wa (λ_=>Wb ff) λA=>?_
  rw[zKc,QG];exact(loop FUEL 0 (QN _) (zD (by omega)) λj g h=>by omega).mono λv k e=>⟨hb A,z,k e⟩
 rw[zJf];refine Wc (λ_=>l _ λh=>by cases h) λh1=>Wc (λ_=>l _ λh=>by cases h) λh2=>?_
 rw[qr]at h1;have hl:0<s.length:=by omega
 have x:s≠[]:=List.length_pos_iff.1 hl;rw[show ixN s 0=some s[0]from zA2 hl]
 exact Wc (λ_=>l _ λh=>by cases h) λh1=>l _ λ_=>x
theorem zL7(x l m:Int):∃b,zBs x l m=some (.bool b)/\(b=true->l<=x/\x<=m):=by
 rw[zLo];by_cases h:x>=l
 .rw[Qc h];exact⟨_,rfl,λg=>⟨h,Qm g⟩⟩
 .rw[Qd h];exact⟨_,rfl,λg=>by cases g⟩
theorem zVH(es z:JE)(h:Nds es)(h':Nds z)(e:z0 es z=some (.bool true)):es=z:=by
 refine zbN ?_ e
 have loop:es.length=z.length->∀(n i:Nat),i<=es.length->es.length-i<n->(∀j,j<i->es[j]? = z[j]?)->Wp (z6 n es z (ofNat es.length) (ofNat i)) (tt (es=z)):=by
  intro hl n
  induction n with
  |zero=>intro i _ h;omega
  |succ n J=>
   intro i hi K hb;rw[zB9];refine Wp.lt (λg=>?_) λD=>Wb λ_=>?_
   .have x:i<z.length:=hl▸g
    obtain⟨k,s,t,m,l,r,C,_⟩:=h.1 _ (Qg g);obtain⟨F,s2,t2,m2,I,E,B,_⟩:=h'.1 _ (Qg x);refine zFc ((zA2 g).trans (congrArg some C)) (zFc ((zA2 x).trans (congrArg some B)) (Wa (λ_=>Wb ff) λA=>?_))
    rw[zm (by have:=h.2;omega)]
    refine J (i+1) g (by omega) λj H=>?_
    rcases Nat.lt_or_ge j i with h1|h1
    .exact hb j h1
    .obtain rfl:j=i:=by omega
     rw[QD g,QD x,C,B];have A:(!(k==F&&(zi s s2&&(zi t t2&&(m==m2&&(l==I&&r==E))))))=false:=A;rw[zKW,zKW]at A;simp only[Bool.not_eq_false',QA,beq_iff_eq,decide_eq_true_eq]at A;obtain⟨rfl,rfl,rfl,rfl,rfl,rfl⟩:=A;rfl
   .refine List.ext_getElem? λj=>?_
    rcases Nat.lt_or_ge j i with h1|h1
    .exact hb j h1
    .rw[List.getElem?_eq_none (by omega),List.getElem?_eq_none (by omega)]
 rw[zCJ];refine Wa (λ_=>Wb ff) λe=>loop ?_ _ 0 (QN _) (zD (by have:=h.2;omega)) λj H=>by omega
 have e:(es.length:Int)=z.length:=by simpa using e
 exact Int.ofNat_inj.1 e
def zRY:JE:=[zV5 (ofNat 1) [] [] (ofNat 0) (Int.negSucc 0) (Int.negSucc 0)]
theorem zRx{r:JE}(hr:Nds r):∃b,zCz r=some (.bool b)/\(b=true->r=zRY):=by
 obtain⟨_,e,b,rfl,_⟩:=zLc r zRY hr.b zTg.b;refine⟨b,zD2 ?_,λh=>zVH r zRY hr zTg (h▸e)⟩
 rw[zMo];exact zWU zD8 (qk_b e (Wb rfl))
def zM6(r:JE)(t:JV):Prop:=0<r.length/\okS t/\t.length<=1024/\zMz r=some (.qd [.str t,.int .i64 (ofNat 0)])/\zCx t=some (.qd [.agg [.qf 6 r],.agg [.int .i64 (ofNat 0),.int .i64 (ofNat 0)]])
theorem zSF{r:JE}(hr:Nds r)(h:zCy r=some (.int .i64 0)):∃t,zM6 r t:=by
 have I:∃t,0<r.length/\okS t/\t.length<=1024/\zCr FUEL r (wrapx .i64 (ofNat r.length-1))=some (.str t)/\zCx t=some (.qd [.agg [.qf 6 r],.agg [.int .i64 (ofNat 0),.int .i64 (ofNat 0)]]):=by
  refine zX3 ?_ h
  have bad:∀{G:Prop},zz G (.int .i64 (ofNat 2)):=λ{G} h=>by cases h
  rw[zMn];refine zAn (zQ9 r hr.b) λb hb=>Wa (λ_=>Wb bad) λz=>?_
  have z:b=true:=by simpa using z
  obtain⟨h0,B,L,D⟩:=hb z;have K:NC zDv r:=λj k s t n l T e=>by
   obtain⟨V,Q,U,S,W,O,M,_,_,H,A⟩:=hr.1 _ (QF e);cases M;exact⟨H.2,A.2⟩
  obtain⟨_,e0,t,rfl,A⟩:=zPF (λ_ h=>h) D K h0 B
  refine qk_s e0 ?_
  obtain⟨v,e,hv⟩:=zSC t λc hc=>by have:=(A c hc).2.1;omega
  have g:¬(ofNat t.length > 1024)\/v=.qd [.agg [.qa],.agg [.int .i64 (ofNat 3),.int .i64 (Int.negSucc 0)]]:=by
   by_cases h1:ofNat t.length > 1024
   .rw[zMm,Qc h1]at e;cases e;exact .inr rfl
   .exact .inl h1
  rcases hv with⟨x,f,rfl,J⟩|⟨l,rfl,C,hl⟩
  .rw[e];show Wp (br (!(x==0&&f==0)) _ _) _
   exact Wa (λ_=>Wb bad) λE=>absurd (zM3 (p:=⟨[],0,0,0,x,f,[],λc hc=>by cases hc⟩) E) J
  .have g:t.length<=1024:=by
    rcases g with h1|h1
    .rw[qr]at h1;omega
    .cases h1
   refine zUl e ?_
   refine Wa (λ_=>Wb bad) λ_=>?_
   obtain⟨_,e2,F,rfl,_⟩:=zLc l r (zUE C hl).b hr.b;refine qk_b e2 (Wa (λ_=>Wb bad) λwe=>Wb λ_=>⟨t,h0,A,g,e0,?_⟩)
   have we:F=true:=by simpa using we
   rw[e,zVH l r (zUE C hl) hr (we▸e2)]
 obtain⟨t,h0,h1,h2,h3,h4⟩:=I;refine⟨t,h0,h1,h2,zD2 ?_,h4⟩
 rw[zTo];exact zCE h (Wa (λh=>by cases h) λ_=>qk_s h3 (Wb rfl))
def CK(k:Int)(u:JV)(b c d:Int)(i_:JV)(r:JE)(ba:Int):Prop:=
 (k=1/\zq u=some (.bool true)/\(0<=b/\b<=3)/\(1<=c/\c<=64)/\(1<=d/\d<=c)/\ba=0/\(∃t,zM6 r t)/\(i_=[]\/zq i_=some (.bool true))) ∨
 (k=2/\zq u=some (.bool true)/\(0<=b/\b<=3)/\(1<=c/\c<=64)/\d=0/\i_=[]/\ba=0/\∃t,zM6 r t) ∨
 (k=3/\u=[]/\b=0/\c=0/\d=0/\i_=[]/\r=[]/\1<=ba/\ba<=64)
theorem len0{r:JE}(h:(ofNat r.length==0)=true):r=[]:=by
 have h:(r.length:Int)=0:=by simpa using h
 exact List.length_eq_zero_iff.1 (by omega)
theorem j1F{G:Prop}:Wp (zl false) (zz G):=by
 rw[zGa];exact Wa (λ_=>Wb λh=>by cases h) λh=>by cases h
theorem j1B{G:Prop}{t:Bool}(h:t=true->G):Wp (zl t) (zz G):=by
 cases t
 .exact j1F
 .rw[zGa];exact Wa (λh=>by cases h) λ_=>Wb λ_=>h rfl
section
variable{k:Int}{n:JV}{u:JV}{b:Int}{c:Int}{d:Int}{i_:JV}{x1:Int}{x2:Int}{x3:Int}{x4:Int}{r:JE}{ba:Int}{G:Prop}
theorem j2B{t:Bool}(hr:Nds r)(h:t=true->(∃y,zM6 r y)->(i_=[]\/zq i_=some (.bool true))->G):Wp (zAy t k n u b c d i_ x1 x2 x3 x4 r ba) (zz G):=by
 rw[zGb];refine Wa (λl=>?_) λ_=>j1F
 obtain⟨_,e,z,rfl,_⟩:=zKy r hr.b;refine zCE e (Wa (λg=>?_) λ_=>j1F)
 have g:z=0:=by simpa using g
 have j:=zSF hr (g▸e)
 refine Wa (λhi=>?_) λ_=>?_
 .have hi:i_=[]:=zAJ hi;exact j1B λ_=>h l j (.inl hi)
 .obtain⟨_,e2,y,rfl,_⟩:=zBn i_;refine qk_b e2 (Wa (λs=>?_) λ_=>j1F)
  obtain⟨x,e3,_⟩:=zRx hr;exact qk_b e3 (j1B λ_=>h l j (.inr (s▸e2)))
theorem zWr(hr:Nds r)(h:zAt k n u b c d i_ x1 x2 x3 x4 r ba=some (.int .i64 0)):zq n=some (.bool true)/\okA x1 x2 x3 x4/\CK k u b c d i_ r ba:=by
 refine zX3 ?_ h
 have A:∀{t:Bool},Wp (zBQ t k n u b c d i_ x1 x2 x3 x4 r ba) (zz (t=true/\CK k u b c d i_ r ba)):=λ{t}=>by
  rw[zGe];obtain⟨_,e,y,rfl,_⟩:=zBn u;obtain⟨I,f1,g1⟩:=zL7 b (ofNat 0) (ofNat 3);obtain⟨K,f2,g2⟩:=zL7 c (ofNat 1) (ofNat 64);obtain⟨J,f3,g3⟩:=zL7 d (ofNat 1) c;obtain⟨H,f4,g4⟩:=zL7 ba (ofNat 1) (ofNat 64);have F:=λ{t}=>j2B (k:=k) (n:=n) (u:=u) (b:=b) (c:=c) (d:=d) (i_:=i_) (x1:=x1) (x2:=x2) (x3:=x3) (x4:=x4) (ba:=ba) (t:=false) (G:=t=true/\CK k u b c d i_ r ba) hr λh=>by cases h
  refine Wa (λl=>?_) λ_=>Wa (λl=>?_) λ_=>Wa (λl=>?_) λ_=>j1F
  .refine Wa (λj=>qk_b e (Wa (λs=>qk_b f1 (Wa (λh1=>qk_b f2 (Wa (λh2=>qk_b f3 (Wa (λh3=>j2B hr λh4 E hi=>⟨j,.inl ⟨by simpa using l,s▸e,g1 h1,g2 h2,g3 h3,by simpa using h4,E,hi⟩⟩) λ_=>F)) λ_=>F)) λ_=>F)) λ_=>F)) λ_=>F
  .refine Wa (λj=>qk_b e (Wa (λs=>qk_b f1 (Wa (λh1=>qk_b f2 (Wa (λh2=>Wa (λh3=>Wa (λh4=>Wa (λx=>?_) λ_=>j1F) λ_=>j1F) λ_=>j1F) λ_=>j1F)) λ_=>j1F)) λ_=>j1F)) λ_=>j1F
   obtain⟨_,e6,z,rfl,_⟩:=zKy r hr.b;refine zCE e6 (j1B λg=>⟨j,.inr (.inl ⟨by simpa using l,s▸e,g1 h1,g2 h2,by simpa using h3,zAJ h4,by simpa using x,?_⟩)⟩)
   have g:z=0:=by simpa using g
   exact zSF hr (g▸e6)
  .exact Wa (λj=>Wa (λh1=>Wa (λh2=>Wa (λh3=>Wa (λh4=>Wa (λx=>Wa (λD=>qk_b f4 (j1B λC=>⟨j,.inr (.inr ⟨by simpa using l,zAJ h1,by simpa using h2,by simpa using h3,by simpa using h4,zAJ x,len0 D,g4 C⟩)⟩)) λ_=>j1F) λ_=>j1F) λ_=>j1F) λ_=>j1F) λ_=>j1F) λ_=>j1F) λ_=>j1F
 rw[zIR];obtain⟨_,e,y,rfl,_⟩:=zBn n;refine qk_b e (Wa (λs=>zCE (zGp x1 x2 x3 x4) (Wa (λg=>?_) λ_=>A.mono λv h z=>by cases (h z).1)) λ_=>A.mono λv h z=>by cases (h z).1)
 refine A.mono λv h z=>⟨s▸e,?_,(h z).2⟩
 by_cases B:okA x1 x2 x3 x4
 .exact B
 .rw[if_neg B]at g;cases g
variable{v:JV}{y:Int}
abbrev okR(k:Int)(n u:JV)(b c d:Int)(i_:JV)(x1 x2 x3 x4:Int)(r:JE)(ba:Int)(v:JV):Option (AV×Heap×Vecs):=some (.bool true,[(0,.cells false [.int .i64 k,.str n,.str u,.int .i64 b,.int .i64 c,.int .i64 d,.str i_,.int .i64 x1,.int .i64 x2,.int .i64 x3,.int .i64 x4,.qf 6 r,.int .i64 ba,.str v])],[])
theorem zc9(h:zq v=some (.bool true)):zDK k n u b c d i_ x1 x2 x3 x4 r ba v=okR k n v b c d i_ x1 x2 x3 x4 r ba v:=by
 rw[zNi,h];rfl
theorem zfr(h:zq v=some (.bool true)):zEN k n u b c d i_ x1 x2 x3 x4 r ba v=okR k n u b c d v x1 x2 x3 x4 r ba v:=by
 rw[zOW,h];rfl
theorem zda(h:zFe v=some (.int .i64 y))(h0:0<=y):zDL k n u b c d i_ x1 x2 x3 x4 r ba v=okR k n u y c d i_ x1 x2 x3 x4 r ba v:=by
 rw[zNj,h,zTx,Qc h0]
theorem zdb{l:JE}(h:zCx v=some (.qd [.agg [.qf 6 l],.agg [.int .i64 (ofNat 0),.int .i64 (ofNat 0)]])):zDO k n u b c d i_ x1 x2 x3 x4 r ba v=okR k n u b c d i_ x1 x2 x3 x4 l ba v:=by
 rw[zNm,h];rfl
theorem zaV(h:z4 v=some (.qd [.int .i64 y,.bool true])):zDn k n u b c d i_ x1 x2 x3 x4 r ba v=okR k n u b y d i_ x1 x2 x3 x4 r ba v:=by
 rw[zMH,zMG,h];rfl
theorem zdc(h:z4 v=some (.qd [.int .i64 y,.bool true])):zDM k n u b c d i_ x1 x2 x3 x4 r ba v=okR k n u b c y i_ x1 x2 x3 x4 r ba v:=by
 rw[zNk,zKD,h];rfl
theorem zaW(h:z4 v=some (.qd [.int .i64 y,.bool true])):zDp k n u b c d i_ x1 x2 x3 x4 r ba v=okR k n u b c d i_ x1 x2 x3 x4 r y v:=by
 rw[zMJ,zKE,h];rfl
theorem zeB(h:z4 v=some (.qd [.int .i64 y,.bool true])):zD6 k n u b c d i_ x1 x2 x3 x4 r ba v=okR k n u b c d i_ y x2 x3 x4 r ba v:=by
 rw[zOe,zLN,h];rfl
theorem zeC(h:z4 v=some (.qd [.int .i64 y,.bool true])):zD7 k n u b c d i_ x1 x2 x3 x4 r ba v=okR k n u b c d i_ x1 y x3 x4 r ba v:=by
 rw[zOf,zJT,h];rfl
theorem zdd(h:z4 v=some (.qd [.int .i64 y,.bool true])):zDN k n u b c d i_ x1 x2 x3 x4 r ba v=okR k n u b c d i_ x1 x2 y x4 r ba v:=by
 rw[zNl,zJU,h];rfl
theorem zaX(h:z4 v=some (.qd [.int .i64 y,.bool true])):zDo k n u b c d i_ x1 x2 x3 x4 r ba v=okR k n u b c d i_ x1 x2 x3 y r ba v:=by
 rw[zMI,zJV,h];rfl
end
theorem zZI:zd 1 [117,115,101,114]=some (.bool true):=by
 simp only[zA,zp,zo,zn];rfl
theorem zZJ:zd 1 [98,97,110,100]=some (.bool true):=by
 simp only[zA,zp,zo,zn];rfl
theorem zX4:zd 1 [99,111,117,110,116]=some (.bool true):=by
 simp only[zA,zp,zo,zn];rfl
theorem zZK:zd 1 [100,111,119,110]=some (.bool true):=by
 simp only[zA,zp,zo,zn];rfl
theorem zde:zd 1 [105,110]=some (.bool true):=by
 simp only[zA,zp,zo,zn];rfl
theorem zaY:zd 1 [99,112,117]=some (.bool true):=by
 simp only[zA,zp,zo,zn];rfl
theorem zaZ:zd 1 [114,97,109]=some (.bool true):=by
 simp only[zA,zp,zo,zn];rfl
theorem zZL:zd 1 [100,105,115,107]=some (.bool true):=by
 simp only[zA,zp,zo,zn];rfl
theorem zX5:zd 1 [112,111,114,116,115]=some (.bool true):=by
 simp only[zA,zp,zo,zn];rfl
theorem zZM:zd 1 [114,117,108,101]=some (.bool true):=by
 simp only[zA,zp,zo,zn];rfl
theorem zZN:zd 2 [117,115,101,114]=some (.bool true):=by
 simp only[zA,zp,zo,zn];rfl
theorem zZO:zd 2 [98,97,110,100]=some (.bool true):=by
 simp only[zA,zp,zo,zn];rfl
theorem zX6:zd 2 [99,111,117,110,116]=some (.bool true):=by
 simp only[zA,zp,zo,zn];rfl
theorem za0:zd 2 [99,112,117]=some (.bool true):=by
 simp only[zA,zp,zo,zn];rfl
theorem za1:zd 2 [114,97,109]=some (.bool true):=by
 simp only[zA,zp,zo,zn];rfl
theorem zZP:zd 2 [100,105,115,107]=some (.bool true):=by
 simp only[zA,zp,zo,zn];rfl
theorem zX7:zd 2 [112,111,114,116,115]=some (.bool true):=by
 simp only[zA,zp,zo,zn];rfl
theorem zZQ:zd 2 [114,117,108,101]=some (.bool true):=by
 simp only[zA,zp,zo,zn];rfl
theorem za2:zd 3 [99,112,117]=some (.bool true):=by
 simp only[zA,zp,zo,zn];rfl
theorem za3:zd 3 [114,97,109]=some (.bool true):=by
 simp only[zA,zp,zo,zn];rfl
theorem zZR:zd 3 [100,105,115,107]=some (.bool true):=by
 simp only[zA,zp,zo,zn];rfl
theorem zX8:zd 3 [112,111,114,116,115]=some (.bool true):=by
 simp only[zA,zp,zo,zn];rfl
theorem zX9:zd 3 [98,97,116,99,104]=some (.bool true):=by
 simp only[zA,zp,zo,zn];rfl
theorem za4(s:JV)(l:List JV)(hl:l.length<=1000)(j:Nat)(D:j<l.length)(A:l[j]=s)(z:∀i (h:i<l.length),i<j->l[i]≠s):zBa (l.map .str) s=some (.int .i64 (ofNat j)):=by
 have loop:∀(f i:Nat),i<=j->l.length-i<f->Wp (zAH f (l.map .str) s (ofNat l.length) (ofNat i)) λv=>v=.int .i64 (ofNat j):=by
  intro f
  induction f with
  |zero=>intro i _ h;omega
  |succ f B=>
   intro i hi C;rw[zG0];refine Wp.lt (λg=>qk_s (zWP g) (Wa (λx=>?_) λx=>?_)) λh=>by omega
   .rcases Nat.lt_or_ge i j with h|h
    .exact absurd (zAJ x) (λe=>z i g h (by first|exact e|exact e.symm))
    .obtain rfl:i=j:=by omega
     exact Wb rfl
   .rcases Nat.lt_or_ge i j with h|h
    .rw[zm (by omega)]
     exact B (i+1) h (by omega)
    .obtain rfl:i=j:=by omega
     rw[A,zHY]at x;cases x
 refine zD2 ?_
 rw[zIg,QG];exact loop FUEL 0 (QN _) (zD (by omega))
def zGr:List JV:=[[102,114,101,101],[98,97,116,99,104],[112,114,111,100],[109,111,110,105,116,111,114,105,110,103]]
theorem zRy{b:Nat}(h:b<4):∃s,zCw (ofNat b)=some (.str s)/\zGr[b]?=some s/\zFe s=some (.int .i64 (ofNat b)):=by
 have hl:b<zGr.length:=h;refine⟨zGr[b],zD2 ?_,QD hl,zD2 ?_⟩
 .rw[zMl];refine Wc (λh=>by rw[qr]at h;omega) λ_=>zXS zFN (Wc (λg=>by
   have g:ofNat b>=(4:Int):=g;rw[qr]at g;omega) λ_=>zXS zFN ?_)
  exact qk_s (o:=ixN (zGr.map AV.str) (ofNat b)) (zWP hl) (Wb rfl)
 .rw[zTp];refine zXS zFN (zCE (o:=zBa (zGr.map AV.str) zGr[b]) (za4 zGr[b] zGr (by decide) b hl rfl λi hi j=>?_) (Wb rfl))
  have:∀b,b<4->∀i,i<b->zGr[i]?≠zGr[b]?:=by decide
  intro e;exact this b h i j (by rw[QD hi,QD hl,e])
end Go.Proofs.YtjfcepbllmdfcaaGreatDoor.record
namespace Go.Proofs.YtjfcepbllmdfcaaGreatDoor.record
open Go Go.Sy
variable[MX]
abbrev o1(c:Bool)(key v:JV):List JV:=if c=true then[key++(61::v)]else[]
def OKL(m:Nat)(L:List JV):Prop:=L.length<=m/\∀w∈L,w.length<=1100
theorem OKL.put{m:Nat}{L:List JV}(h:OKL m L)(c:Bool){key v:JV}(j:key.length+v.length<=1099):OKL (m+1) (L++o1 c key v):=by
 cases c with
 |false=>simp only[o1];exact⟨by have:=h.1;simp;omega,by simpa using h.2⟩
 |true=>
  simp only[o1];refine⟨by have:=h.1;simp;omega,λw g=>?_⟩
  rcases QI.1 g with g|g
  .exact h.2 w g
  .have g:w=key++(61::v):=by simpa using g
   subst g;rw[QE,QL];omega
theorem put{β:Type}{P:β->Prop}{f:JE->Option β}{key v:JV}{c:Bool}{L:List JV}{m:Nat}(h:OKL m L)(hm:m<=1000)(l:key.length+v.length<=1099)(q:OKL (m+1) (L++o1 c key v)->Wp (f ((L++o1 c key v).map .str)) P):
  Wp (dD true [.v (.qd 0),.hc 0 false 1,.v (.c (AV.sym 0)),.vec 0 1] (zA5 key v c (L.map .str)) f) P:=by
 have q:=q (h.put c l);refine zWn (x3:=(L++o1 c key v).map .str) ?_ q
 refine zD2 ?_
 rw[zRJ];cases c with
 |false=>
  refine Wa (λh=>by cases h) λ_=>Wb ?_
  simp[o1]
 |true=>
  have hl:=h.1;have e:∀x:AV,(chunks 1 1 [x]).length=1:=λx=>rfl
  have g:([61]:JV).length=1:=rfl;refine Wa (λ_=>We (by rw[g];show key.length+1<=9223372036854775807;omega) (We (by rw[QE,g];show key.length+1+v.length<=9223372036854775807;omega) (We (zc0 (k:=16) (by rw[e,QG];omega) (by omega)) (Wb ?_)))) λh=>by cases h
  have j:∀x:JV,chunks 1 1 (List.drop 0 (qm [.str []] 0 (AV.cells (.str x))))=[.str x]:=λx=>rfl
  rw[j,Qu];simp[o1]
theorem zVI:∀W:List JV,strs (W.map .str)=some W
 |[]=>rfl
 |w::r=>by
  have g:=zVI r;show(match strs (r.map .str)with
   |some x=>some (w::x)
   |none=>none)=_
  rw[g]
theorem zPI{B:Nat}:∀{W:List JV},(∀w∈W,w.length<=B)->(zAx [32] W).length<=W.length*(B+1)
 |[],_=>QN _
 |[w],h=>by
  have:=h w (.head _);show(w++[]).length<=_
  simp;omega
 |w::x::r,h=>by
  have s:=zPI (B:=B) (W:=x::r) λy l=>h y (.tail _ l)
  have h1:=h w (.head _);have j:zAx [32] (w::x::r)=w++(32::zAx [32] (x::r)):=by simp[zKz]
  rw[j,QE,QL];have g:(w::x::r).length*(B+1)=(x::r).length*(B+1)+(B+1):=by rw[QL,Nat.succ_mul]
  rw[g];omega
theorem zVJ:∀W:List JV,flatten 1 (W.map .str)=some (W.map .str)
 |[]=>rfl
 |w::r=>by
  have g:=zVJ r;show(match flatten 1 (r.map .str)with
   |some j=>some ([AV.str w]++j)
   |none=>none)=_
  rw[g];rfl
theorem zeD{W:List JV}(h:OKL 100 W):zM9 (W.map .str) [32]=some (.str (zAx [32] W)):=by
 have l:=zPI h.2;have h1:=h.1;have j:W.length*(1100+1)<=100*(1100+1):=Nat.mul_le_mul_right _ h1;show zNw [.qf 1 (W.map .str),.str [32]] []=_
 have hc:content [] 1 (.qf 1 (W.map .str))=some (W.length,W.map .str):=by
  show(match flatten 1 (W.map .str)with
   |some g=>some ((W.map AV.str).length,g)
   |none=>none)=_
  rw[QG,zVJ]
 unfold zNw;simp only[show zVU (.qf 1 (W.map .str))=true from rfl,hc,zVI]
 have e:(Nat.ble W.length 140737488355328&&Nat.ble (zAx [32] W).length 140737488355328)=true:=by
  rw[QA];exact⟨Nat.ble_eq_true_of_le (by omega),Nat.ble_eq_true_of_le (by omega)⟩
 rw[e]
theorem zfs:FUEL=1180591620717411303419+1+1+1+1+1:=zH0
section
variable{k:Int}{n u i_ bs t:JV}{b c d x1 x2 x3 x4 ba:Nat}{r:JE}{L:List JV}
abbrev zM7(W:List JV)(v:AV):Prop:=v=.qd [.str (zAx [32] W),.int .i64 (ofNat 0)]/\OKL 13 W
theorem zW3(h:OKL 12 L)(vQ:ba<100):Wp (zGu k n u (ofNat b) (c:Int) (d:Int) i_ (x1:Int) (x2:Int) (x3:Int) (x4:Int) r (ba:Int) (L.map .str)) (zM7 (L++o1 (decide ((ba:Int) > 1)) [98,97,116,99,104] (dec ba))):=by
 rw[zQF];have hl:=zGq ba (by omega)
 exact qk_s (zRw ba vQ) (put h (by omega) (by show 5+_<=_;omega) λh=>qk_s (zeD ⟨by have:=h.1;omega,h.2⟩) (Wb ⟨rfl,h⟩))
def zQt(rc:Bool)(r:JE)(t:JV):Prop:=(rc=false/\(r=[]\/zCz r=some (.bool true)))\/(rc=true/\0<r.length/\zCz r=some (.bool false)/\zM6 r t)
theorem zZS{rc:Bool}(h:OKL 11 L)(vQ:ba<100)(hr:zQt rc r t):Wp (br (decide (ofNat (List.length r) > 0)) (dK true [K.b] (zCz r) λl=>zCh (!l) k n u (ofNat b) (c:Int) (d:Int) i_ (x1:Int) (x2:Int) (x3:Int) (x4:Int) r (ba:Int) (L.map .str)) (zCh false k n u (ofNat b) (c:Int) (d:Int) i_ (x1:Int) (x2:Int) (x3:Int) (x4:Int) r (ba:Int) (L.map .str))) (zM7 (L++o1 rc [114,117,108,101] (34::(t++[34]))++o1 (decide ((ba:Int) > 1)) [98,97,116,99,104] (dec ba))):=by
 have no:rc=false->Wp (zCh false k n u (ofNat b) (c:Int) (d:Int) i_ (x1:Int) (x2:Int) (x3:Int) (x4:Int) r (ba:Int) (L.map .str)) (zM7 (L++o1 rc [114,117,108,101] (34::(t++[34]))++o1 (decide ((ba:Int) > 1)) [98,97,116,99,104] (dec ba))):=λe=>by
  subst e;rw[zKd];refine Wa (λh=>by cases h) λ_=>?_
  have:=zW3 (k:=k) (n:=n) (u:=u) (b:=b) (c:=c) (d:=d) (i_:=i_) (x1:=x1) (x2:=x2) (x3:=x3) (x4:=x4) (r:=r) (ba:=ba) (L:=L) ⟨by have:=h.1;omega,h.2⟩ vQ
  have e:L++o1 false [114,117,108,101] (34::(t++[34]))=L:=by simp[o1]
  rw[e];exact this
 rcases hr with⟨e,rfl|j⟩|⟨e,h0,j,x⟩
 .exact Wc (λh=>by cases h) λ_=>no e
 .exact Wc (λ_=>qk_b j (no e)) λ_=>no e
 .subst e;refine Wc (λ_=>qk_b j ?_) λh=>absurd (by rw[qr];omega) h
  obtain⟨_,_,hl,s,_⟩:=x;show Wp (zCh true k n u (ofNat b) (c:Int) (d:Int) i_ (x1:Int) (x2:Int) (x3:Int) (x4:Int) r (ba:Int) (L.map .str)) _
  rw[zKd];have g:([34]:JV).length=1:=rfl;refine Wa (λ_=>zcQ s (We (by rw[g];show 1+t.length<=9223372036854775807;omega) (We (by rw[QE,g];show 1+t.length+1<=9223372036854775807;omega) ?_))) λh=>by cases h
  exact put (key:=[114,117,108,101]) (v:=34::(t++[34])) h (by omega) (by show 4+(34::(t++[34])).length<=_;rw[QL,QE];show 4+(t.length+1+1)<=_;omega) λh=>zW3 h vQ
theorem zdf{rc:Bool}(h:OKL 7 L)(vQ:ba<100)(h1:x1<=1099511627776)(h2:x2<=1099511627776)(h3:x3<=1099511627776)(h4:x4<=1099511627776)(hr:zQt rc r t):Wp (zFE FUEL (ofNat 4) (ofNat 0) k n u (ofNat b) (c:Int) (d:Int) i_ (x1:Int) (x2:Int) (x3:Int) (x4:Int) r (ba:Int) [.agg [.str [99,112,117],.int .i64 (x1:Int)],.agg [.str [114,97,109],.int .i64 (x2:Int)],.agg [.str [100,105,115,107],.int .i64 (x3:Int)],.agg [.str [112,111,114,116,115],.int .i64 (x4:Int)]] (L.map .str)) (zM7 (L++o1 ((x1:Int) != 0) [99,112,117] (dec x1)++o1 ((x2:Int) != 0) [114,97,109] (dec x2)++o1 ((x3:Int) != 0) [100,105,115,107] (dec x3)++o1 ((x4:Int) != 0) [112,111,114,116,115] (dec x4)++o1 rc [114,117,108,101] (34::(t++[34]))++o1 (decide ((ba:Int) > 1)) [98,97,116,99,104] (dec ba))):=by
 rw[zfs];rw[zCB];refine Wc (λ_=>?_) λh=>absurd (by decide:((0:Int))<4) h
 refine We ⟨(by decide:(0:Int)<=0),(by decide:((0:Int))<4)⟩ (zBy (x2:=[99,112,117]) (x3:=(x1:Int)) rfl (qk_s (zQr x1 (by omega)) (put h (by omega) (by have:=zGq x1 (by omega);show 3+_<=_;omega) λh=>?_)))
 rw[show wrapx .i64 (ofNat 0+1)=ofNat 1 from rfl]
 rw[zCB];refine Wc (λ_=>?_) λh=>absurd (by decide:((1:Int))<4) h
 refine We ⟨(by decide:(0:Int)<=1),(by decide:((1:Int))<4)⟩ (zBy (x2:=[114,97,109]) (x3:=(x2:Int)) rfl (qk_s (zQr x2 (by omega)) (put h (by omega) (by have:=zGq x2 (by omega);show 3+_<=_;omega) λh=>?_)))
 rw[show wrapx .i64 (ofNat 1+1)=ofNat 2 from rfl]
 rw[zCB];refine Wc (λ_=>?_) λh=>absurd (by decide:((2:Int))<4) h
 refine We ⟨(by decide:(0:Int)<=2),(by decide:((2:Int))<4)⟩ (zBy (x2:=[100,105,115,107]) (x3:=(x3:Int)) rfl (qk_s (zQr x3 (by omega)) (put h (by omega) (by have:=zGq x3 (by omega);show 4+_<=_;omega) λh=>?_)))
 rw[show wrapx .i64 (ofNat 2+1)=ofNat 3 from rfl]
 rw[zCB];refine Wc (λ_=>?_) λh=>absurd (by decide:((3:Int))<4) h
 refine We ⟨(by decide:(0:Int)<=3),(by decide:((3:Int))<4)⟩ (zBy (x2:=[112,111,114,116,115]) (x3:=(x4:Int)) rfl (qk_s (zQr x4 (by omega)) (put h (by omega) (by have:=zGq x4 (by omega);show 5+_<=_;omega) λh=>?_)))
 rw[show wrapx .i64 (ofNat 3+1)=ofNat 4 from rfl]
 rw[zCB];refine Wc (λh=>absurd h (by decide:¬((4:Int))<4)) λ_=>?_
 exact zZS h vQ hr
theorem zdg{rc:Bool}(h:OKL 2 L)(hu:u.length<=16)(hi:i_.length<=16)(hb:zCw (ofNat b)=some (.str bs))(g:bs.length<=16)(hc:c<100)(hd:d<100)(vQ:ba<100)(h1:x1<=1099511627776)(h2:x2<=1099511627776)(h3:x3<=1099511627776)(h4:x4<=1099511627776)(hr:zQt rc r t):Wp (zCi k n u (ofNat b) (c:Int) (d:Int) i_ (x1:Int) (x2:Int) (x3:Int) (x4:Int) r (ba:Int) (L.map .str)) (zM7 (L++o1 (!zi u []) [117,115,101,114] u++o1 (ofNat b != 0) [98,97,110,100] bs++o1 (decide ((c:Int) > 1)) [99,111,117,110,116] (dec c)++o1 (decide ((d:Int) > 1)) [100,111,119,110] (dec d)++o1 (!zi i_ []) [105,110] i_++o1 ((x1:Int) != 0) [99,112,117] (dec x1)++o1 ((x2:Int) != 0) [114,97,109] (dec x2)++o1 ((x3:Int) != 0) [100,105,115,107] (dec x3)++o1 ((x4:Int) != 0) [112,111,114,116,115] (dec x4)++o1 rc [114,117,108,101] (34::(t++[34]))++o1 (decide ((ba:Int) > 1)) [98,97,116,99,104] (dec ba))):=by
 rw[zQG];have j:=zGq c (by omega)
 have l:=zGq d (by omega)
 exact put h (by omega) (by show 4+_<=_;omega) λh=>qk_s hb (put h (by omega) (by show 4+_<=_;omega) λh=>qk_s (zRw c hc) (put h (by omega) (by show 5+_<=_;omega) λh=>qk_s (zRw d hd) (put h (by omega) (by show 4+_<=_;omega) λh=>put h (by omega) (by show 2+_<=_;omega) λh=>zdf h vQ h1 h2 h3 h4 hr)))
end
end Go.Proofs.YtjfcepbllmdfcaaGreatDoor.record
