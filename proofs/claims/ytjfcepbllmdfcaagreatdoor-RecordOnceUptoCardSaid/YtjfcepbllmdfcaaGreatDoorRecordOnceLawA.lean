/- THE LAW OF THE LEAN FUNCTIONS, IN PLAIN LEAN: whatever the arguments, it says true. No condition. -/
import Derived.Test.YtjfcepbllmdfcaaGreatDoorRecordOnceS2
import Derived.Test.YtjfcepbllmdfcaaGreatDoorRows
set_option linter.unusedVariables false
set_option linter.unusedSimpArgs false
set_option linter.unusedSectionVars false
open Int(ofNat)
theorem Wa:type_of% @Go.Sy.Wp.if:=@Go.Sy.Wp.if
theorem Wb:type_of% @Go.Sy.Wp.mk:=@Go.Sy.Wp.mk
theorem Wc:type_of% @Go.Sy.Wp.ite:=@Go.Sy.Wp.ite
theorem We:type_of% @Go.Sy.Wp.gd:=@Go.Sy.Wp.gd
namespace Go.Proofs.YtjfcepbllmdfcaaGreatDoor.record
open Go Go.Sy
variable[MX]
theorem zXc:zCQ=some (.bool true):=by
 unfold zCQ gV;rw[zI7]
 kernel_rfl
end Go.Proofs.YtjfcepbllmdfcaaGreatDoor.record
namespace Go.Proofs.YtjfcepbllmdfcaaGreatDoor.record
open Go Go.Sy
theorem zdl{β:Type}{wk:Bool}{f:(Bool)->Option β}(x1:Bool):dK wk [K.b] (some (.bool x1)) f=f x1:=rfl
theorem zAh{β:Type}{wk:Bool}{P:β->Prop}{f:(Bool)->Option β}{o:Option (AV)}{R:(Bool)->Prop}(h:Wp o λv=>∃(x1:Bool),v=(.bool x1)/\R x1)(k:∀(x1:Bool),R x1->Wp (f x1) P):Wp (dK wk [K.b] o f) P:=by
 obtain⟨v,rfl,h⟩:=h;obtain⟨x1,rfl,h⟩:=h;exact k x1 h
theorem qk_b{β:Type}{wk:Bool}{P:β->Prop}{f:(Bool)->Option β}{o:Option (AV)}{x1:Bool}(h:o=some (.bool x1))(k:Wp (f x1) P):Wp (dK wk [K.b] o f) P:=by
 subst h;exact k
theorem zY7{β:Type}{wk:Bool}{f:(Int)->Option β}(x1:Int):dK wk [K.i .i64] (some (.int .i64 x1)) f=f x1:=rfl
theorem zT0{β:Type}{wk:Bool}{P:β->Prop}{f:(Int)->Option β}{o:Option (AV)}{R:(Int)->Prop}(h:Wp o λv=>∃(x1:Int),v=(.int .i64 x1)/\R x1)(k:∀(x1:Int),R x1->Wp (f x1) P):Wp (dK wk [K.i .i64] o f) P:=by
 obtain⟨v,rfl,h⟩:=h;obtain⟨x1,rfl,h⟩:=h;exact k x1 h
theorem zCe{β:Type}{wk:Bool}{P:β->Prop}{f:(Int)->Option β}{o:Option (AV)}{x1:Int}(h:o=some (.int .i64 x1))(k:Wp (f x1) P):Wp (dK wk [K.i .i64] o f) P:=by
 subst h;exact k
theorem zQa{β:Type}{wk:Bool}{P:β->Prop}{f:(Int)->Option β}{o:Option (AV)}{x1:Int}(h:o=some (.int .u8 x1))(k:Wp (f x1) P):Wp (dK wk [K.i .u8] o f) P:=by
 subst h;exact k
theorem zDE{β:Type}{wk:Bool}{f:JE->Option β}(x1:JE):dK wk [K.l 1] (some (.qd 1 x1)) f=f x1:=rfl
theorem zVH{β:Type}{wk:Bool}{P:β->Prop}{f:JE->Option β}{o:Option (AV)}{x1:JE}(h:o=some (.qd 1 x1))(k:Wp (f x1) P):Wp (dK wk [K.l 1] o f) P:=by
 subst h;exact k
theorem zMz{β:Type}{wk:Bool}{P:β->Prop}{f:JV->Option β}{o:Option (AV)}{R:JV->Prop}(h:Wp o λv=>∃(x1:JV),v=(.str x1)/\R x1)(k:∀(x1:JV),R x1->Wp (f x1) P):Wp (dK wk [K.s] o f) P:=by
 obtain⟨v,rfl,h⟩:=h;obtain⟨x1,rfl,h⟩:=h;exact k x1 h
theorem qk_s{β:Type}{wk:Bool}{P:β->Prop}{f:JV->Option β}{o:Option (AV)}{x1:JV}(h:o=some (.str x1))(k:Wp (f x1) P):Wp (dK wk [K.s] o f) P:=by
 subst h;exact k
theorem zXd{β:Type}{wk:Bool}{P:β->Prop}{f:(Int)->(Int)->(Int)->(Int)->Option β}{o:Option (AV)}{x2:Int}{x3:Int}{x4:Int}{x5:Int}(h:o=some (.agg [.int .i64 x2,.int .i64 x3,.int .i64 x4,.int .i64 x5]))(k:Wp (f x2 x3 x4 x5) P):Wp (dK wk yG o f) P:=by
 subst h;exact k
theorem zag{β:Type}{wk:Bool}{f:JV->JV->Option β}(x2:JV)(x3:JV):dK wk yN (some (.agg [.str x2,.str x3])) f=f x2 x3:=rfl
theorem zah{β:Type}{wk:Bool}{P:β->Prop}{f:JV->JV->Option β}{o:Option (AV)}{x2:JV}{x3:JV}(h:o=some (.agg [.str x2,.str x3]))(k:Wp (f x2 x3) P):Wp (dK wk yN o f) P:=by
 subst h;exact k
theorem zEO{β:Type}{wk:Bool}{P:β->Prop}{f:(Int)->JV->JV->(Int)->(Int)->(Int)->Option β}{o:Option (AV)}{x2:Int}{x3:JV}{x4:JV}{x5:Int}{x6:Int}{x7:Int}(h:o=some (.agg [.int .i64 x2,.str x3,.str x4,.int .i64 x5,.int .i64 x6,.int .i64 x7]))(k:Wp (f x2 x3 x4 x5 x6 x7) P):Wp (dK wk yt o f) P:=by
 subst h;exact k
theorem zUP{β:Type}{wk:Bool}{P:β->Prop}{f:(Int)->(AV)->Option β}{o:Option (AV)}{x2:Int}{x3:AV}(h:o=some (.qe [.int .i64 x2,x3]))(k:Wp (f x2 x3) P):Wp (dK wk [K.qe 2,K.i .i64,K.av] o f) P:=by
 subst h;exact k
theorem zSk{β:Type}{wk:Bool}{f:JE->(Int)->(Int)->Option β}(x3:JE)(x5:Int)(x6:Int):dK wk yQ (some (.qe [.agg [.qd 6 x3],.agg [.int .i64 x5,.int .i64 x6]])) f=f x3 x5 x6:=rfl
theorem zSl{β:Type}{wk:Bool}{P:β->Prop}{f:JE->(Int)->(Int)->Option β}{o:Option (AV)}{x3:JE}{x5:Int}{x6:Int}(h:o=some (.qe [.agg [.qd 6 x3],.agg [.int .i64 x5,.int .i64 x6]]))(k:Wp (f x3 x5 x6) P):Wp (dK wk yQ o f) P:=by
 subst h;exact k
theorem zUQ{β:Type}{wk:Bool}{P:β->Prop}{f:JE->Option β}{o:Option (AV)}{x2:JE}(h:o=some (.agg [.qd 6 x2]))(k:Wp (f x2) P):Wp (dK wk yP o f) P:=by
 subst h;exact k
theorem zai{β:Type}{wk:Bool}{f:JV->(Int)->Option β}(x2:JV)(x3:Int):dK wk yR (some (.qe [.str x2,.int .i64 x3])) f=f x2 x3:=rfl
theorem zUR{β:Type}{wk:Bool}{P:β->Prop}{f:JV->(Int)->Option β}{o:Option (AV)}{R:JV->(Int)->Prop}(h:Wp o λv=>∃(x2:JV) (x3:Int),v=(.qe [.str x2,.int .i64 x3])/\R x2 x3)(k:∀(x2:JV)(x3:Int),R x2 x3->Wp (f x2 x3) P):Wp (dK wk yR o f) P:=by
 obtain⟨v,rfl,h⟩:=h;obtain⟨x2,x3,rfl,h⟩:=h;exact k x2 x3 h
theorem zaj{β:Type}{wk:Bool}{P:β->Prop}{f:JV->(Int)->Option β}{o:Option (AV)}{x2:JV}{x3:Int}(h:o=some (.qe [.str x2,.int .i64 x3]))(k:Wp (f x2 x3) P):Wp (dK wk yR o f) P:=by
 subst h;exact k
theorem zBo{β:Type}{wk:Bool}{P:β->Prop}{f:JV->JV->(Bool)->Option β}{o:Option (AV)}{x2:JV}{x3:JV}{x4:Bool}(h:o=some (.qe [.str x2,.str x3,.bool x4]))(k:Wp (f x2 x3 x4) P):Wp (dK wk yV o f) P:=by
 subst h;exact k
theorem zVI{β:Type}{wk:Bool}{P:β->Prop}{f:JV->(Int)->(Int)->Option β}{o:Option (AV)}{x3:JV}{x4:Int}{x5:Int}(h:o=some (.qe [.agg [.str x3,.int .i64 x4],.int .i64 x5]))(k:Wp (f x3 x4 x5) P):Wp (dK wk [K.qe 2,K.agg 2,K.s,K.i .i64,K.i .i64] o f) P:=by
 subst h;exact k
theorem zYs{β:Type}{wk:Bool}{f:JE->(Int)->Option β}(x2:JE)(x3:Int):dK wk yU (some (.qe [.qd 1 x2,.int .i64 x3])) f=f x2 x3:=rfl
theorem zRj{β:Type}{wk:Bool}{f:JV->(Int)->Option β}(x2:JV)(x3:Int):dK wk yF (some (.agg [.str x2,.int .i64 x3])) f=f x2 x3:=rfl
theorem zBc{β:Type}{wk:Bool}{P:β->Prop}{f:JV->(Int)->Option β}{o:Option (AV)}{x2:JV}{x3:Int}(h:o=some (.agg [.str x2,.int .i64 x3]))(k:Wp (f x2 x3) P):Wp (dK wk yF o f) P:=by
 subst h;exact k
theorem z6{β:Type}{wk:Bool}{P:β->Prop}{f:(Int)->JV->(Int)->(Int)->(Int)->(Int)->(Int)->JE->(Int)->JV->JV->(Int)->(Int)->(Int)->JV->(Int)->(Int)->(Int)->(Int)->JE->(Int)->JV->(Int)->JV->(Int)->JV->JV->(Int)->(Int)->(Int)->(Bool)->Option β}{o:Option (AV)}{x2:Int}{x3:JV}{x4:Int}{x5:Int}{x6:Int}{x7:Int}{x8:Int}{x9:JE}{x10:Int}{x11:JV}{x12:JV}{x13:Int}{x14:Int}{x15:Int}{x16:JV}{x17:Int}{x18:Int}{x19:Int}{x20:Int}{x21:JE}{x22:Int}{x23:JV}{x24:Int}{x25:JV}{x26:Int}{x27:JV}{x28:JV}{x29:Int}{x30:Int}{x31:Int}{x32:Bool}(h:o=some (.agg [.int .i64 x2,.str x3,.int .i64 x4,.int .i64 x5,.int .i64 x6,.int .i64 x7,.int .i64 x8,.qd 2 x9,.int .i64 x10,.str x11,.str x12,.int .i64 x13,.int .i64 x14,.int .i64 x15,.str x16,.int .i64 x17,.int .i64 x18,.int .i64 x19,.int .i64 x20,.qd 6 x21,.int .i64 x22,.str x23,.int .i64 x24,.str x25,.int .i64 x26,.str x27,.str x28,.int .u64 x29,.int .u64 x30,.int .i64 x31,.bool x32]))(k:Wp (f x2 x3 x4 x5 x6 x7 x8 x9 x10 x11 x12 x13 x14 x15 x16 x17 x18 x19 x20 x21 x22 x23 x24 x25 x26 x27 x28 x29 x30 x31 x32) P):Wp (dK wk yi o f) P:=by
 subst h;exact k
theorem zGU{β:Type}{wk:Bool}{f:JE->Option β}(x2:JE):dD wk [.v (.c (AV.sym 0)),.vec 0 1] (some (AV.sym 0,[],[(0,.vec 1 x2)])) f=f x2:=rfl
theorem zUj{β:Type}{wk:Bool}{P:β->Prop}{f:JE->Option β}{o:Option (AV×Heap×Vecs)}{x3:JE}(h:o=some (.qe [],[(0,.cells false [AV.sym 0])],[(0,.vec 1 x3)]))(k:Wp (f x3) P):Wp (dD wk [.v (.qe 0),.hc 0 false 1,.v (.c (AV.sym 0)),.vec 0 1] o f) P:=by
 subst h;exact k
theorem zL{β:Type}{wk:Bool}{P:β->Prop}{f:(Bool)->(Int)->JV->JV->(Int)->(Int)->(Int)->JV->(Int)->(Int)->(Int)->(Int)->JE->(Int)->JV->Option β}{o:Option (AV×Heap×Vecs)}{x1:Bool}{x2:Int}{x3:JV}{x4:JV}{x5:Int}{x6:Int}{x7:Int}{x8:JV}{x9:Int}{x10:Int}{x11:Int}{x12:Int}{x13:JE}{x14:Int}{x15:JV}(h:o=some (.bool x1,[(0,.cells false [.int .i64 x2,.str x3,.str x4,.int .i64 x5,.int .i64 x6,.int .i64 x7,.str x8,.int .i64 x9,.int .i64 x10,.int .i64 x11,.int .i64 x12,.qd 6 x13,.int .i64 x14,.str x15])],[]))(k:Wp (f x1 x2 x3 x4 x5 x6 x7 x8 x9 x10 x11 x12 x13 x14 x15) P):Wp (dD wk yh o f) P:=by
 subst h;exact k
theorem zFn{β:Type}{wk:Bool}{P:β->Prop}{f:Option β}{o:Option (AV×Heap×Vecs)}(h:o=some (AV.sym 0,[],[(0,.mp [(AV.str [117,115,101,114],AV.func (Fn.func 146) [] []),(AV.str [98,97,110,100],AV.func (Fn.func 147) [] []),(AV.str [99,111,117,110,116],AV.func (Fn.func 148) [] []),(AV.str [100,111,119,110],AV.func (Fn.func 149) [] []),(AV.str [105,110],AV.func (Fn.func 150) [] []),(AV.str [99,112,117],AV.func (Fn.func 151) [] []),(AV.str [114,97,109],AV.func (Fn.func 152) [] []),(AV.str [100,105,115,107],AV.func (Fn.func 153) [] []),(AV.str [112,111,114,116,115],AV.func (Fn.func 154) [] []),(AV.str [114,117,108,101],AV.func (Fn.func 155) [] []),(AV.str [98,97,116,99,104],AV.func (Fn.func 156) [] [])])]))(k:Wp (f) P):Wp (dD wk [.v (.c (AV.sym 0)),.uR 0 [(AV.str [117,115,101,114],AV.func (Fn.func 146) [] []),(AV.str [98,97,110,100],AV.func (Fn.func 147) [] []),(AV.str [99,111,117,110,116],AV.func (Fn.func 148) [] []),(AV.str [100,111,119,110],AV.func (Fn.func 149) [] []),(AV.str [105,110],AV.func (Fn.func 150) [] []),(AV.str [99,112,117],AV.func (Fn.func 151) [] []),(AV.str [114,97,109],AV.func (Fn.func 152) [] []),(AV.str [100,105,115,107],AV.func (Fn.func 153) [] []),(AV.str [112,111,114,116,115],AV.func (Fn.func 154) [] []),(AV.str [114,117,108,101],AV.func (Fn.func 155) [] []),(AV.str [98,97,116,99,104],AV.func (Fn.func 156) [] [])]] o f) P:=by
 subst h;exact k
variable[MX]
def zC7(c:Nat):Prop:=32<=c/\c<=126/\c≠34/\c≠35
instance:DecidablePred zC7:=λc=>by unfold zC7;infer_instance
abbrev okS(s:JV):Prop:=∀c∈s,zC7 c
theorem zL1{k:Nat}(h:k<10):(UInt8.ofNat (48+k)).toNat=48+k:=by
 rw[UInt8.toNat_ofNat'];omega
theorem zXe{k:Nat}(h:k<10):zC7 (48+k):=⟨by omega,by omega,by omega,by omega⟩
theorem zR9(n:Nat):okS ((Lib.decDigits n).map UInt8.toNat):=by
 induction n using Nat.strongRecOn with
 |ind n g=>
  rw[Lib.decDigits];by_cases h:n<10
  .rw[dif_pos h];intro c hc;simp only[QZ,List.map_nil,zL1 h,QW]at hc;subst hc;exact zXe h
  .rw[dif_neg h,Qu];intro c hc;rcases QJ.1 hc with hc|hc
   .exact g (n / 10) (by omega) c hc
   .have e:=Nat.mod_lt n (by decide:0<10)
    simp only[QZ,List.map_nil,zL1 e,QW]at hc;subst hc;exact zXe e
theorem zVJ(n:Int)(h0:-9223372036854775808<=n)(h1:n<=9223372036854775807):∃s,zBJ n (ofNat 10)=some (.str s)/\s.length<=21/\okS s:=by
 refine⟨(Lib.itoa n).map UInt8.toNat,?_,?_,?_⟩
 .show(match((ofNat 10==10)&&decide (-9223372036854775808<=n/\n<=9223372036854775807))with|true=>some (AV.str ((Lib.itoa n).map UInt8.toNat))|false=>none)=_
  rw[Ql (⟨h0,h1⟩:-9223372036854775808<=n/\n<=9223372036854775807)];rfl
 .rw[QG];exact Lib.itoa_length_le n h0 h1
 .unfold Lib.itoa;split
  .intro c hc;rcases QI.1 hc with rfl|hc
   .decide
   .exact zR9 _ c hc
  .exact zR9 _
theorem zTu(s:JV)(h:s.length<=1000):∃n v,zFt s (ofNat 10) (ofNat 64)=some (.qe [.int .i64 n,v])/\-9223372036854775808<=n/\n<=9223372036854775807:=by
 have g:∀l,-9223372036854775808<=Lib.intSat 64 l/\Lib.intSat 64 l<=9223372036854775807:=λl=>by unfold Lib.intSat;split<;>decide
 have e:Nat.ble s.length 281474976710656=true:=by rw[Qq];omega
 have e2:(Nat.ble s.length 281474976710656&&(ofNat 10==10&&ofNat 64==64))=true:=by rw[e];rfl
 unfold zFt zEb zSz;simp only[e2];cases hp:Lib.parseIntB 64 (s.map UInt8.ofNat)with
 |ok v=>
  have hb:=Lib.parseIntB_bounds hp;exact⟨_,_,rfl,hb.1,Int.le_of_lt_add_one hb.2⟩
 |range=>exact⟨_,_,rfl,g _⟩
 |_=>exact⟨_,_,rfl,by decide,by decide⟩
def okA(a b c d:Int):Prop:=(0<=a/\a<=1099511627776)/\(0<=b/\b<=1099511627776)/\(0<=c/\c<=1099511627776)/\(0<=d/\d<=1099511627776)
instance(a b c d:Int):Decidable (okA a b c d):=by unfold okA;infer_instance
theorem zDF{β:Type}{o:Option β}{x:β}(h:Wp o λv=>v=x):o=some x:=let ⟨_,e,h⟩:=h;h▸e
theorem zFI(a b c d:Int):zCM a b c d=some (.int .i64 (if okA a b c d then 0 else 2)):=by
 refine zDF ?_
 rw[zMP];refine zXd (zMO ..) ?_
 repeat' first|refine Wc (λ_=>?_) (λ_=>?_)|refine Wb ?_
 all_goals (first|rw[if_neg (by unfold okA;omega)];rfl|rw[if_pos (by unfold okA;omega)];rfl)
def zZg(a b c d e j c' g:Int):Prop:=a<=e/\b<=j/\c<=c'/\d<=g
instance(a b c d a' b' c' d':Int):Decidable (zZg a b c d a' b' c' d'):=by unfold zZg;infer_instance
def tx(m:Nat)(s:JV):Prop:=s.length<=m/\okS s
theorem zDP(m:Nat):tx m []:=⟨QS _,λc hc=>by cases hc⟩
theorem zak{a b:JV}(h:okS a)(k:okS b):okS (a++b):=λc hc=>(QJ.1 hc).elim (h c) (k c)
theorem zPF{s:JV}{a j:Nat}(l:j<s.length)(x:a<=j)(h:okS ((s.take j).drop a))(hc:zC7 s[j]):okS ((s.take (j+1)).drop a):=by
 have e:s.take (j+1)=s.take j++[s[j]]:=by simp
 rw[e,List.drop_append_of_le_length (by rw[Qh];omega)]
 exact zak h λc g=>by rw[QW.1 g];exact hc
abbrev bytes(s:JV):JE:=s.map λb=>AV.int .u8 (.ofNat b)
abbrev isB(v:AV):Prop:=∃b,v=.bool b/\True
theorem zA1(s:JV):Wp (zq s) isB:=by
 have loop:∀(n i:Nat),i<=s.length->s.length-i<n->s.length<=16->Wp (zDR n (ofNat (bytes s).length) (ofNat i) (bytes s)) isB:=by
  intro n
  induction n with
  |zero=>intro i _ h;omega
  |succ n l=>
   intro i hi x g;rw[zIy];rw[QG];refine Wp.lt (λh=>zIR h (zQa (zNL h) ?_)) λ_=>Wb ⟨_,rfl,trivial⟩
   have next:∀b,Wp (zAz n (ofNat s.length) (ofNat i) b (bytes s)) isB:=λb=>by
    rw[zIx];refine Wa (λ_=>Wb ⟨_,rfl,trivial⟩) λ_=>?_
    rw[zo (by omega)]
    have:=l (i+1) h (by omega) g
    rwa [QG]at this
   repeat' first|refine Wc (λ_=>?_) (λ_=>?_)|exact next _
 rw[zHE];have e:∀b,(b=true\/s.length<=16)->Wp (zBN s b) isB:=λb hb=>by
  rw[zF6];refine Wa (λ_=>Wb ⟨_,rfl,trivial⟩) λh=>?_
  rw[zIz];refine loop _ 0 (QS _) (zQ ?_) ?_<;>rcases hb with hb|hb<;>first|omega|(rw[hb]at h;cases h)
 refine Wc (λ_=>e _ (.inl rfl)) λh1=>Wc (λ_=>e _ (.inl rfl)) λh2=>?_
 rw[QB]at h1 h2;have hl:0<s.length:=by omega
 have j:ixN s 0=some s[0]:=zAO hl;rw[j];refine Wc (λ_=>e _ (.inl rfl)) λh1=>e _ (.inr (by omega))
abbrev zdm(v:AV):Prop:=∃s n,v=.qe [.str s,.int .i64 n]/\True
theorem zTv{s:JV}(h:zq s=some (.bool true)):s.length<=16:=by
 rcases Nat.lt_or_ge 16 s.length with e|e
 .exfalso
  rw[zHE]at h;have h1:¬ofNat s.length<1:=by rw[QB];omega
  have h2:ofNat s.length > 16:=by rw[QB];omega
  simp only[h1,h2,decide_true,decide_false,zHv,zW,zF6]at h;cases h
 .exact e
theorem zIT(c:Int):zBq c=some (.bool (decide (48<=c/\c<=57))):=by
 rw[zQ0];refine zDF (Wc (λh=>Wb ?_) λh=>Wb ?_)
 .congr 1;exact decide_eq_decide.2 (by omega)
 .congr 1;exact(Qn (by omega)).symm
theorem or32:∀c,c<256->IntKind.wrap IntKind.u8 ↑(BitVec.toNat (BitVec.ofInt (IntKind.bits IntKind.u8) (ofNat c) ||| BitVec.ofInt (IntKind.bits IntKind.u8) 32))>=97->IntKind.wrap IntKind.u8 ↑(BitVec.toNat (BitVec.ofInt (IntKind.bits IntKind.u8) (ofNat c) ||| BitVec.ofInt (IntKind.bits IntKind.u8) 32))<=122->zC7 c:=by decide +kernel
theorem ib3:∀c,c<256->0<=Lib.indexByte ([45,95,46].map UInt8.ofNat) (UInt8.ofNat c)->zC7 c:=by decide +kernel
theorem zHS(c:Nat):Wp (zCm (ofNat c)) λv=>∃b,v=.bool b/\(c<256->b=true->zC7 c):=by
 rw[zPQ,zPP,zIT];have hl:Wp (br (decide (IntKind.wrap IntKind.u8 ↑(BitVec.toNat (BitVec.ofInt (IntKind.bits IntKind.u8) (ofNat c) ||| BitVec.ofInt (IntKind.bits IntKind.u8) 32))>=97)) (some (AV.bool (decide (IntKind.wrap IntKind.u8 ↑(BitVec.toNat (BitVec.ofInt (IntKind.bits IntKind.u8) (ofNat c) ||| BitVec.ofInt (IntKind.bits IntKind.u8) 32))<=122)))) (some (AV.bool false))) λv=>∃b,v=.bool b/\(c<256->b=true->zC7 c):=by
  refine Wc (λh=>Wb ⟨_,rfl,λh8 hb=>or32 c h8 h (Qi hb)⟩) λ_=>Wb ⟨_,rfl,λ_ h=>by cases h⟩
 refine zAh hl λb hb=>Wa (λe=>Wb ⟨_,rfl,λh8 _=>hb h8 e⟩) λ_=>qk_b rfl (Wa (λe=>Wb ⟨_,rfl,λh8 _=>?_⟩) λ_=>?_)
 .have:=Qi e;rw[QB]at this;exact⟨by omega,by omega,by omega,by omega⟩
 .refine zCe (show zA3 [45,95,46] (ofNat c)=some (.int .i64 (Lib.indexByte ([45,95,46].map UInt8.ofNat) (UInt8.ofNat c)))from rfl) (Wb ⟨_,rfl,λh8 hb=>ib3 c h8 (Qi hb)⟩)
end Go.Proofs.YtjfcepbllmdfcaaGreatDoor.record
namespace Go.Proofs.YtjfcepbllmdfcaaGreatDoor.record
open Go Go.Sy
abbrev nd6(k:Int)(s t:JV)(n l r:Int):AV:=.agg [.int .i64 k,.str s,.str t,.int .i64 n,.int .i64 l,.int .i64 r]
def zQb:Nat:=4611686018427387904
def TL(es:JE)(L:Nat->Nat)(m:Nat):Prop:=∀j,j<m->∃k s t n l r,es[j]?=some (nd6 k s t n l r)/\(-9223372036854775808<=n/\n<=9223372036854775807)/\s.length+t.length+24<=L j/\L j<=zQb ∧
 (k=7->∃a:Nat,l=ofNat a/\a<j/\L a+3<=L j)/\(k=8\/k=9->∃a b:Nat,l=ofNat a/\r=ofNat b/\a<j/\b<j/\L a+L b+7<=L j)
def upd{α:Type}(f:Nat->α)(a:Nat)(v:α):Nat->α:=λj=>if j=a then v else f j
theorem zEB{α:Type}{f:Nat->α}{a:Nat}{v:α}:upd f a v a=v:=if_pos rfl
theorem zBp{α:Type}{f:Nat->α}{a j:Nat}{v:α}(h:j≠a):upd f a v j=f j:=if_neg h
def rs(L:Nat->Nat)(c:Nat->Int):Nat->Nat
 |0=>0
 |i+1=>rs L c i+if c i=0 then L i else 0
theorem zPG{L L':Nat->Nat}{c c':Nat->Int}:∀{i:Nat},(∀j,j<i->L j=L' j)->(∀j,j<i->(c j=c' j))->rs L c i=rs L' c' i
 |0,_,_=>rfl
 |i+1,h1,h2=>by
  rw[rs,rs,zPG (λj h=>h1 j (by omega)) λj h=>h2 j (by omega),h1 i (by omega),h2 i (by omega)]
theorem zUS{L:Nat->Nat}{c:Nat->Int}{a:Nat}(h0:c a=0){v:Int}(hv:v≠0):∀{i:Nat},a<i->rs L (upd c a v) i+L a=rs L c i
 |0,h=>by omega
 |i+1,h=>by
  rw[rs,rs];by_cases e:a=i
  .subst e;rw[zEB,if_neg hv,if_pos h0,zPG (L':=L) (c':=c) (λ_ _=>rfl) λj g=>zBp (by omega)]
   omega
  .have:=zUS (L:=L) (c:=c) h0 hv (show a<i by omega)
   rw[zBp (by omega)]
   omega
def fb:Nat->Nat->Nat->Nat
 |0,a,b=>a
 |n+1,a,b=>fb n b (a+b+1)
theorem zXf:∀(n a b:Nat),fb (n+2) a b=fb (n+1) a b+fb n a b+1
 |0,a,b=>by simp only[fb];omega
 |n+1,a,b=>by
  have:=zXf n b (a+b+1);rw[fb,fb,fb]at *;exact this
theorem zVK:∀(n a b:Nat),a<b->fb n a b<fb (n+1) a b
 |0,a,b,h=>by simp only[fb];exact h
 |n+1,a,b,h=>by
  have:=zVK n b (a+b+1) (by omega)
  rw[fb,fb]at *;exact this
def fbL(j:Nat):Nat:=100*fb j 1 2
theorem zLg{a b:Nat}(h:a<b):∀{n m:Nat},n<=m->fb n a b<=fb m a b:=by
 intro n m j
 induction m with
 |zero=>
  have:n=0:=by omega
  subst this;exact QA _
 |succ m g=>
  by_cases e:n=m+1
  .subst e;exact QA _
  .exact Qe (g (by omega)) (Qd (zVK m a b h))
theorem zal{a j:Nat}(h:a<j):fbL a+3<=fbL j:=by
 have h1:=zVK a 1 2 (by omega)
 have h2:=zLg (a:=1) (b:=2) (by omega) (show a+1<=j by omega)
 unfold fbL;omega
theorem zam{a b j:Nat}(h:a<b)(h2:b<j):fbL a+fbL b+7<=fbL j:=by
 obtain⟨i,rfl⟩:∃i,j=i+2:=⟨j-2,by omega⟩
 have h0:=zXf i 1 2;have h1:=zLg (a:=1) (b:=2) (by omega) (show a<=i by omega)
 have h2:=zLg (a:=1) (b:=2) (by omega) (show b<=i+1 by omega)
 unfold fbL;omega
theorem zan{j:Nat}(h:j<=64):fbL j<=zQb:=by
 have h1:=zLg (a:=1) (b:=2) (by omega) h
 have h2:fb 64 1 2<=40000000000000000:=by decide
 unfold fbL zQb;omega
theorem zby(j:Nat):100<=fbL j:=by
 have h1:=zLg (a:=1) (b:=2) (by omega) (show 0<=j by omega)
 have:fb 0 1 2=1:=rfl;unfold fbL;omega
variable[MX]
structure PS where
 s:JV
 i:Int
 dp:Int
 n:Int
 e:Int
 fa:Int
 l:JE
 h8:∀c∈s,c<256
abbrev zBE(v:AV)(q:PS):AV×Heap×Vecs:=(v,[(0,HO.cells false [.str q.s,.int .i64 q.i,.int .i64 q.dp,.int .i64 q.n,AV.sym 0,.int .i64 q.e,.int .i64 q.fa])],[(0,VI.vec 6 q.l)])
section
variable{β:Type}{wk:Bool}{P:β->Prop}{o:Option (AV×Heap×Vecs)}
theorem wdU{f:JV->Int->Int->Int->Int->Int->JE->Option β}{R:PS->Prop}(h:Wp o λv=>∃q,v=zBE (.qe []) q/\R q)(k:∀q,R q->Wp (f q.s q.i q.dp q.n q.e q.fa q.l) P):Wp (dD wk [.v (.qe 0),.hc 0 false 7,.v .s,.v (.i .i64),.v (.i .i64),.v (.i .i64),.v (.c (AV.sym 0)),.v (.i .i64),.v (.i .i64),.vec 0 6] o f) P:=by
 obtain⟨v,rfl,q,rfl,h⟩:=h;exact k q h
theorem wdB{f:Bool->JV->Int->Int->Int->Int->Int->JE->Option β}{R:Bool->PS->Prop}(h:Wp o λv=>∃b q,v=zBE (.bool b) q/\R b q)(k:∀b q,R b q->Wp (f b q.s q.i q.dp q.n q.e q.fa q.l) P):Wp (dD wk [.v .b,.hc 0 false 7,.v .s,.v (.i .i64),.v (.i .i64),.v (.i .i64),.v (.c (AV.sym 0)),.v (.i .i64),.v (.i .i64),.vec 0 6] o f) P:=by
 obtain⟨v,rfl,b,q,rfl,h⟩:=h;exact k b q h
theorem wdI{f:Int->JV->Int->Int->Int->Int->Int->JE->Option β}{R:Int->PS->Prop}(h:Wp o λv=>∃b q,v=zBE (.int .i64 b) q/\R b q)(k:∀b q,R b q->Wp (f b q.s q.i q.dp q.n q.e q.fa q.l) P):Wp (dD wk [.v (.i .i64),.hc 0 false 7,.v .s,.v (.i .i64),.v (.i .i64),.v (.i .i64),.v (.c (AV.sym 0)),.v (.i .i64),.v (.i .i64),.vec 0 6] o f) P:=by
 obtain⟨v,rfl,b,q,rfl,h⟩:=h;exact k b q h
theorem wdS{f:JV->JV->Int->Int->Int->Int->Int->JE->Option β}{R:JV->PS->Prop}(h:Wp o λv=>∃b q,v=zBE (.str b) q/\R b q)(k:∀b q,R b q->Wp (f b q.s q.i q.dp q.n q.e q.fa q.l) P):Wp (dD wk [.v .s,.hc 0 false 7,.v .s,.v (.i .i64),.v (.i .i64),.v (.i .i64),.v (.c (AV.sym 0)),.v (.i .i64),.v (.i .i64),.vec 0 6] o f) P:=by
 obtain⟨v,rfl,b,q,rfl,h⟩:=h;exact k b q h
end
def PS.nf(p:PS):Prop:=p.e=0/\p.fa=0
def WFn(j:Nat)(v:AV):Prop:=∃k s t n a b,v=nd6 k s t n a b/\(-9223372036854775808<=n/\n<=9223372036854775807)/\tx 24 s/\tx 32 t ∧
 (k=7->∃e:Nat,a=ofNat e/\e<j)/\(k=8\/k=9->∃e g:Nat,a=ofNat e/\b=ofNat g/\e<g/\g<j)
def WF(l:JE):Prop:=∀j v,l[j]?=some v->WFn j v
structure Inv(p:PS):Prop where
 i0:0<=p.i
 i1:p.i<=p.s.length
 w3:p.s.length<=1024
 ok:p.nf->0<=p.dp/\p.dp<=32/\(p.l.length:Int)<=p.n/\p.n<=64/\WF p.l
structure Stp(k:Int)(p q:PS):Prop where
 s:q.s=p.s
 i:p.i<=q.i
 nf:q.nf->p.nf/\q.dp=p.dp/\q.n-q.l.length=p.n-p.l.length+k/\p.l.length<=q.l.length
theorem Stp.trans{a b:Int}{p q r:PS}(h:Stp a p q)(k:Stp b q r):Stp (a+b) p r:=⟨k.s.trans h.s,Int.le_trans h.i k.i,λhr=>by
 obtain⟨q1,g,j,e⟩:=k.nf hr;obtain⟨p1,p2,p3,p4⟩:=h.nf q1;exact⟨p1,g.trans p2,by omega,Qe p4 e⟩⟩
theorem Stp.qI{p q r:PS}{b:Int}(h:Stp 0 p q)(k:Stp b q r):Stp b p r:=by have:=h.trans k;rwa [Int.zero_add]at this
theorem mv{p:PS}(h:Inv p){i:Int}(h1:p.i<=i)(h2:i<=p.s.length):Inv { p with i:=i }/\Stp 0 p { p with i:=i }:=⟨⟨Int.le_trans h.i0 h1,h2,h.w3,λe=>h.ok e⟩,rfl,h1,λe=>⟨e,rfl,by show p.n-p.l.length=_;omega,QA _⟩⟩
theorem zQQ{p:PS}:(p.e==0&&p.fa==0)=true↔p.nf:=by unfold PS.nf;simp
theorem zPH{p:PS}(h:(!(p.e==0&&p.fa==0))=true):¬p.nf:=λg=>by rw[zQQ.2 g]at h;cases h
theorem zLh{p:PS}(h:(!(p.e==0&&p.fa==0))=false):p.nf:=zQQ.1 (by revert h;cases (p.e==0&&p.fa==0)<;>simp)
theorem zFo(p:PS)(h:Inv p):Wp (z4 p.s p.i p.dp p.n p.e p.fa p.l) λv=>∃q,v=zBE (.qe []) q/\Inv q/\Stp 0 p q/\q.l=p.l:=by
 have w3:=h.w3;have loop:∀(n:Nat)(i:Int),p.i<=i->i<=p.s.length->p.s.length-i<n->Wp (zBG n p.s i p.dp p.n p.e p.fa p.l) λv=>∃q,v=zBE (.qe []) q/\Inv q/\Stp 0 p q/\q.l=p.l:=by
  intro n
  induction n with
  |zero=>intro i _ _ h;omega
  |succ n z=>
   intro i h1 h2 A;have i0:=h.i0;obtain⟨j,rfl⟩:=Int.eq_ofNat_of_zero_le (Int.le_trans i0 h1);have g:∃q,zBE (.qe []) { p with i:=(j:Int) }=zBE (.qe []) q/\Inv q/\Stp 0 p q/\q.l=p.l:=⟨{ p with i:=(j:Int) },rfl,(mv h h1 h2).1,(mv h h1 h2).2,rfl⟩
   rw[zIg];refine Wp.lt (i:=j) (λx=>?_) λ_=>Wb g
   show Wp (bd (ixN p.s (ofNat j)) _) _
   rw[zAO x];refine Wa (λ_=>?_) λ_=>Wb g
   rw[zIf,zAd (by omega) (by omega)]
   exact z _ (by omega) (by omega) (by omega)
 rw[zJZ];exact loop _ _ (Int.le_refl _) h.i1 (by have:=h.i0;have:=zQ (n:=1025) (by omega);omega)
theorem zXg(t u:JV):∃b,zCU t u=some (.bool b)/\(b=true->u.length<=t.length):=by
 have:Wp (zCU t u) λv=>∃b,v=.bool b/\(b=true->u.length<=t.length):=by
  rw[zKP];refine zAh (R:=λb=>b=true->u.length<=t.length) ?_ λb hb=>Wb ⟨_,rfl,hb⟩
  rw[zFT];refine Wc (λhl=>We ⟨Qj _,hl⟩ (Wb ⟨_,rfl,λ_=>Qy.1 hl⟩)) λ_=>Wb ⟨_,rfl,λh=>(by cases h)⟩
 obtain⟨v,e,b,rfl,h⟩:=this;exact⟨b,e,h⟩
theorem zGu(p:PS)(h:Inv p)(t:JV)(j:t.length<=2):Wp (zO t p.s p.i p.dp p.n p.e p.fa p.l) λv=>∃b q,v=zBE (.bool b) q/\Inv q/\Stp 0 p q/\(b=true->p.i+t.length<=q.i)/\q.l=p.l:=by
 rw[zMY];refine wdU (zFo p h) λq g=>We ⟨g.1.i0,g.1.i1⟩ ?_
 obtain⟨b,hb,hl⟩:=zXg (List.drop (Int.toNat q.i) (List.take (Int.toNat (ofNat q.s.length)) q.s)) t;refine qk_b hb (Wa (λhb=>Wb ⟨false,q,rfl,g.1,g.2.1,λh=>(by cases h),g.2.2⟩) λhb=>?_)
 have hb:b=true:=by simpa using hb
 have hl:=hl hb;rw[Qm,Qh]at hl;have e1:Int.toNat (ofNat q.s.length)=q.s.length:=rfl;have i0:=g.1.i0;have i1:=g.1.i1;have w3:=g.1.w3;have x:=g.2.1.i;rw[e1,Nat.min_self]at hl;rw[QB,zAd (by omega) (by omega)]
 have m:=mv g.1 (i:=q.i+t.length) (by omega) (by omega)
 exact Wb ⟨true,{ q with i:=q.i+t.length },rfl,m.1,g.2.1.trans m.2,λ_=>by show _<=q.i+(t.length:Int);omega,g.2.2⟩
structure Inv0(p:PS):Prop where
 i0:0<=p.i
 i1:p.i<=p.s.length
 w3:p.s.length<=1024
theorem Inv.z{p:PS}(h:Inv p):Inv0 p:=⟨h.i0,h.i1,h.w3⟩
theorem Stp.bad{p q:PS}{k:Int}(e:q.s=p.s)(hi:p.i<=q.i)(g:¬q.nf):Stp k p q:=⟨e,hi,λh=>absurd h g⟩
theorem Inv0.bad{q:PS}(h:Inv0 q)(e:¬q.nf):Inv q:=⟨h.i0,h.i1,h.w3,λh=>absurd h e⟩
theorem zDz(e i:Int)(j:e≠0)(p:PS)(h:Inv0 p):Wp (zM e i p.s p.i p.dp p.n p.e p.fa p.l) λv=>∃q,v=zBE (.qe []) q/\Inv q/\q.s=p.s/\q.i=p.i/\¬q.nf:=by
 rw[zKQ];refine Wa (λg=>?_) λg=>?_
 .exact Wb ⟨{ p with e:=e,fa:=i },rfl,⟨h.i0,h.i1,h.w3,λg=>absurd g.1 j⟩,rfl,rfl,λg=>j g.1⟩
 .have g:¬p.nf:=λx=>by have g:(p.e==0&&p.fa==0)=false:=g;rw[zQQ.2 x]at g;cases g
  exact Wb ⟨p,rfl,h.bad g,rfl,rfl,g⟩
theorem zJy(i:Int)(p:PS)(h:Inv p):Wp (zAD i p.s p.i p.dp p.n p.e p.fa p.l) λv=>∃q,v=zBE (.qe []) q/\Inv q/\Stp 1 p q/\(q.nf->q.l=p.l):=by
 rw[zKR];refine Wc (λz=>?_) λx=>?_
 .refine wdU (zDz (ofNat 3) i (by decide) { p with n:=wrapx .i64 (p.n+1) } ⟨h.i0,h.i1,h.w3⟩) λq j=>Wb ⟨q,rfl,j.1,.bad j.2.1 (by rw[j.2.2.1];exact Int.le_refl _) j.2.2.2,λg=>absurd g j.2.2.2⟩
 .by_cases g:p.nf
  .obtain⟨d0,d1,A,B,w⟩:=h.ok g;rw[zAd (by omega) (by omega)]at x⊢
   exact Wb ⟨{ p with n:=p.n+1 },rfl,⟨h.i0,h.i1,h.w3,λ_=>⟨d0,d1,by show(p.l.length:Int)<=p.n+1;omega,by show p.n+1<=64;omega,w⟩⟩,⟨rfl,Int.le_refl _,λ_=>⟨g,rfl,by show p.n+1-p.l.length=p.n-p.l.length+1;omega,QA _⟩⟩,λ_=>rfl⟩
  .exact Wb ⟨{ p with n:=wrapx .i64 (p.n+1) },rfl,Inv0.bad ⟨h.i0,h.i1,h.w3⟩ g,.bad rfl (Int.le_refl _) g,λh=>absurd h g⟩
structure In(b:Bool)(p q:PS):Prop where
 s:q.s=p.s
 i:q.i=p.i
 nf:q.nf->b=true/\p.nf/\q.dp=p.dp+1/\q.n=p.n/\q.l=p.l
theorem zZh(i:Int)(p:PS)(h:Inv p):Wp (zEh i p.s p.i p.dp p.n p.e p.fa p.l) λv=>∃b q,v=zBE (.bool b) q/\Inv q/\In b p q:=by
 rw[zMZ];refine Wc (λz=>?_) λx=>?_
 .refine wdU (zDz (ofNat 3) i (by decide) { p with dp:=wrapx .i64 (p.dp+1) } ⟨h.i0,h.i1,h.w3⟩) λq j=>Wb ⟨false,q,rfl,j.1,j.2.1,j.2.2.1,λg=>absurd g j.2.2.2⟩
 .by_cases g:p.nf
  .obtain⟨d0,d1,A,B,w⟩:=h.ok g;rw[zAd (by omega) (by omega)]at x⊢
   exact Wb ⟨true,{ p with dp:=p.dp+1 },rfl,⟨h.i0,h.i1,h.w3,λ_=>⟨by show 0<=p.dp+1;omega,by show p.dp+1<=32;omega,A,B,w⟩⟩,rfl,rfl,λ_=>⟨rfl,g,rfl,rfl,rfl⟩⟩
  .exact Wb ⟨true,{ p with dp:=wrapx .i64 (p.dp+1) },rfl,Inv0.bad ⟨h.i0,h.i1,h.w3⟩ g,rfl,rfl,λh=>absurd h g⟩
def Res(p q:PS)(x:Int):Prop:=q.nf->x=(q.l.length:Int)-1/\p.l.length<q.l.length
theorem zUT(p:PS)(h:Inv p)(k:Int)(s t:JV)(n a b:Int)(hx:p.nf->(p.l.length:Int)+1<=p.n)(z:p.nf->WFn p.l.length (nd6 k s t n a b)):Wp (zAf k s t n a b p.s p.i p.dp p.n p.e p.fa p.l) λv=>∃x q,v=zBE (.int .i64 x) q/\Inv q/\Stp (-1) p q/\Res p q x:=by
 rw[zLt];refine Wa (λg=>?_) λg=>?_
 .have g:¬p.nf:=zPH g;exact Wb ⟨_,p,rfl,h,.bad rfl (Int.le_refl _) g,λh=>absurd h g⟩
 .have g:p.nf:=zLh g;obtain⟨d0,d1,C,A,w⟩:=h.ok g;have hx:=hx g;have z:=z g;have hl:p.l.length<=63:=by omega
  refine We ?_ (Wb ⟨_,{ p with l:=p.l++[nd6 k s t n a b] },rfl,⟨h.i0,h.i1,h.w3,λ_=>⟨d0,d1,?_,A,?_⟩⟩,⟨rfl,Int.le_refl _,λ_=>⟨g,rfl,?_,?_⟩⟩,λ_=>⟨?_,?_⟩⟩)
  .show(p.l.length+1)*64<=ze/\p.l.length+1<=ze
   unfold ze;omega
  .show((p.l++[_]).length:Int)<=p.n
   rw[QH];show((p.l.length+1:Nat):Int)<=p.n;omega
  .intro j v hv;show WFn j v
   have hv:(p.l++[nd6 k s t n a b])[j]?=some v:=hv;by_cases B:j<p.l.length
   .rw[Qx B]at hv;exact w j v hv
   .rw[List.getElem?_append_right (by omega)]at hv
    have:j=p.l.length:=by
     by_cases e:j-p.l.length=0
     .omega
     .rw[List.getElem?_eq_none (by show 1<=_;omega)]at hv;cases hv
    subst this;rw[Nat.sub_self]at hv;cases hv;exact z
  .show p.n-((p.l++[_]).length:Int)=p.n-p.l.length+-1
   rw[QH];show p.n-((p.l.length+1:Nat):Int)=_;omega
  .show p.l.length<=(p.l++[_]).length
   rw[QH];omega
  .show wrapx .i64 (ofNat (p.l++[nd6 k s t n a b]).length-1)=((p.l++[nd6 k s t n a b]).length:Int)-1
   rw[QH];show wrapx .i64 (ofNat (p.l.length+1)-1)=((p.l.length+1:Nat):Int)-1
   rw[zFH (by omega) (by omega),QB];omega
  .show p.l.length<(p.l++[_]).length
   rw[QH];show _<p.l.length+1;omega
theorem zbz(c:Nat):Wp (zEi (ofNat c)) λv=>∃b,v=.bool b/\(c<256->b=true->zC7 c):=by
 rw[zJ0]
 repeat' first|refine Wc (λ_=>?_) (λ_=>?_)|refine Wa (λ_=>?_) (λ_=>?_)|refine qk_b (zIT _) ?_|refine Wb ⟨_,rfl,λ_ h=>?_⟩
 all_goals simp only[QB,decide_eq_true_eq,beq_iff_eq]at *
 all_goals exact⟨by omega,by omega,by omega,by omega⟩
theorem zao(c:Nat):Wp (zBq (ofNat c)) λv=>∃b,v=.bool b/\(c<256->b=true->zC7 c):=⟨_,zIT _,_,rfl,λ_ h=>by
 have:=Qi h;rw[QB]at this;exact⟨by omega,by omega,by omega,by omega⟩⟩
theorem zUk(m:Int)(m0:0<=m)(m1:m<=1000)(p:PS)(h:Inv p):Wp (zAP m p.s p.i p.dp p.n p.e p.fa p.l) λv=>∃t q,v=zBE (.str t) q/\Inv q/\Stp 0 p q/\((t.length:Int)<=m/\okS t):=by
 have w3:=h.w3;have loop:∀(n:Nat)(i:Int),p.i<=i->i<=p.s.length->i-p.i<=m->p.s.length-i<n->okS (List.drop (Int.toNat p.i) (List.take (Int.toNat i) p.s))->Wp (z7 n m p.i p.s i p.dp p.n p.e p.fa p.l) λv=>∃t q,v=zBE (.str t) q/\Inv q/\Stp 0 p q/\((t.length:Int)<=m/\okS t):=by
  intro n
  induction n with
  |zero=>intro i _ _ _ h;omega
  |succ n D=>
   intro i h1 h2 h3 E A;have i0:=h.i0;obtain⟨j,rfl⟩:=Int.eq_ofNat_of_zero_le (Int.le_trans i0 h1);have g:Wp (gd (decide (0<=p.i/\p.i<=(j:Int)/\(j:Int)<=ofNat p.s.length)) (some (AV.str (List.drop (Int.toNat p.i) (List.take (Int.toNat (j:Int)) p.s)),[(0,HO.cells false [.str p.s,.int .i64 (j:Int),.int .i64 p.dp,.int .i64 p.n,AV.sym 0,.int .i64 p.e,.int .i64 p.fa])],[(0,VI.vec 6 p.l)]))) λv=>∃t q,v=zBE (.str t) q/\Inv q/\Stp 0 p q/\((t.length:Int)<=m/\okS t):=by
    refine We ⟨i0,h1,h2⟩ (Wb ⟨_,{ p with i:=(j:Int) },rfl,(mv h h1 h2).1,(mv h h1 h2).2,?_,A⟩)
    rw[Qm,Qh];have e:Int.toNat (j:Int)=j:=rfl;rw[e];omega
   rw[zDX];refine Wp.lt (i:=j) (λx=>Wc (λC=>?_) λ_=>g) λ_=>g
   show Wp (bd (ixN p.s (ofNat j)) _) _
   rw[zAO x];rw[zAd (by omega) (by omega)]at C
   refine zAh (zbz _) λb hb=>Wa (λB=>?_) λ_=>g
   rw[zDW,zAd (by omega) (by omega)]
   refine D _ (by omega) (by omega) (by omega) (by omega) ?_
   have z:j<p.s.length:=by simpa using x
   exact zPF z (by omega) A (hb (p.h8 _ (Qf z)) B)
 rw[zEF];exact loop _ _ (Int.le_refl _) h.i1 (by omega) (by have:=h.i0;have:=zQ (n:=1025) (by omega);omega) (λc hc=>by rw[List.drop_eq_nil_of_le (by rw[Qh];omega)]at hc;cases hc)
theorem zUl(m:Int)(m0:0<=m)(m1:m<=1000)(p:PS)(h:Inv p):Wp (zBB m p.s p.i p.dp p.n p.e p.fa p.l) λv=>∃t q,v=zBE (.str t) q/\Inv q/\Stp 0 p q/\((t.length:Int)<=m/\okS t):=by
 have w3:=h.w3;have loop:∀(n:Nat)(i:Int),p.i<=i->i<=p.s.length->i-p.i<=m->p.s.length-i<n->okS (List.drop (Int.toNat p.i) (List.take (Int.toNat i) p.s))->Wp (zAs n m p.i p.s i p.dp p.n p.e p.fa p.l) λv=>∃t q,v=zBE (.str t) q/\Inv q/\Stp 0 p q/\((t.length:Int)<=m/\okS t):=by
  intro n
  induction n with
  |zero=>intro i _ _ _ h;omega
  |succ n D=>
   intro i h1 h2 h3 E A;have i0:=h.i0;obtain⟨j,rfl⟩:=Int.eq_ofNat_of_zero_le (Int.le_trans i0 h1);have g:Wp (gd (decide (0<=p.i/\p.i<=(j:Int)/\(j:Int)<=ofNat p.s.length)) (some (AV.str (List.drop (Int.toNat p.i) (List.take (Int.toNat (j:Int)) p.s)),[(0,HO.cells false [.str p.s,.int .i64 (j:Int),.int .i64 p.dp,.int .i64 p.n,AV.sym 0,.int .i64 p.e,.int .i64 p.fa])],[(0,VI.vec 6 p.l)]))) λv=>∃t q,v=zBE (.str t) q/\Inv q/\Stp 0 p q/\((t.length:Int)<=m/\okS t):=by
    refine We ⟨i0,h1,h2⟩ (Wb ⟨_,{ p with i:=(j:Int) },rfl,(mv h h1 h2).1,(mv h h1 h2).2,?_,A⟩)
    rw[Qm,Qh];have e:Int.toNat (j:Int)=j:=rfl;rw[e];omega
   rw[zFV];refine Wp.lt (i:=j) (λx=>Wc (λC=>?_) λ_=>g) λ_=>g
   show Wp (bd (ixN p.s (ofNat j)) _) _
   rw[zAO x];rw[zAd (by omega) (by omega)]at C
   refine zAh (zHS _) λb hb=>Wa (λB=>?_) λ_=>g
   rw[zFU,zAd (by omega) (by omega)]
   refine D _ (by omega) (by omega) (by omega) (by omega) ?_
   have z:j<p.s.length:=by simpa using x
   exact zPF z (by omega) A (hb (p.h8 _ (Qf z)) B)
 rw[zGD];exact loop _ _ (Int.le_refl _) h.i1 (by omega) (by have:=h.i0;have:=zQ (n:=1025) (by omega);omega) (λc hc=>by rw[List.drop_eq_nil_of_le (by rw[Qh];omega)]at hc;cases hc)
theorem zTw(m:Int)(m0:0<=m)(m1:m<=1000)(p:PS)(h:Inv p):Wp (zBQ m p.s p.i p.dp p.n p.e p.fa p.l) λv=>∃t q,v=zBE (.str t) q/\Inv q/\Stp 0 p q/\((t.length:Int)<=m/\okS t):=by
 have w3:=h.w3;have loop:∀(n:Nat)(i:Int),p.i<=i->i<=p.s.length->i-p.i<=m->p.s.length-i<n->okS (List.drop (Int.toNat p.i) (List.take (Int.toNat i) p.s))->Wp (zAw n m p.i p.s i p.dp p.n p.e p.fa p.l) λv=>∃t q,v=zBE (.str t) q/\Inv q/\Stp 0 p q/\((t.length:Int)<=m/\okS t):=by
  intro n
  induction n with
  |zero=>intro i _ _ _ h;omega
  |succ n D=>
   intro i h1 h2 h3 E A;have i0:=h.i0;obtain⟨j,rfl⟩:=Int.eq_ofNat_of_zero_le (Int.le_trans i0 h1);have g:Wp (gd (decide (0<=p.i/\p.i<=(j:Int)/\(j:Int)<=ofNat p.s.length)) (some (AV.str (List.drop (Int.toNat p.i) (List.take (Int.toNat (j:Int)) p.s)),[(0,HO.cells false [.str p.s,.int .i64 (j:Int),.int .i64 p.dp,.int .i64 p.n,AV.sym 0,.int .i64 p.e,.int .i64 p.fa])],[(0,VI.vec 6 p.l)]))) λv=>∃t q,v=zBE (.str t) q/\Inv q/\Stp 0 p q/\((t.length:Int)<=m/\okS t):=by
    refine We ⟨i0,h1,h2⟩ (Wb ⟨_,{ p with i:=(j:Int) },rfl,(mv h h1 h2).1,(mv h h1 h2).2,?_,A⟩)
    rw[Qm,Qh];have e:Int.toNat (j:Int)=j:=rfl;rw[e];omega
   rw[zF8];refine Wp.lt (i:=j) (λx=>Wc (λC=>?_) λ_=>g) λ_=>g
   show Wp (bd (ixN p.s (ofNat j)) _) _
   rw[zAO x];rw[zAd (by omega) (by omega)]at C
   refine zAh (zao _) λb hb=>Wa (λB=>?_) λ_=>g
   rw[zF7,zAd (by omega) (by omega)]
   refine D _ (by omega) (by omega) (by omega) (by omega) ?_
   have z:j<p.s.length:=by simpa using x
   exact zPF z (by omega) A (hb (p.h8 _ (Qf z)) B)
 rw[zGV];exact loop _ _ (Int.le_refl _) h.i1 (by omega) (by have:=h.i0;have:=zQ (n:=1025) (by omega);omega) (λc hc=>by rw[List.drop_eq_nil_of_le (by rw[Qh];omega)]at hc;cases hc)
end Go.Proofs.YtjfcepbllmdfcaaGreatDoor.record
namespace Go.Proofs.YtjfcepbllmdfcaaGreatDoor.record
open Go Go.Sy
variable[MX]
theorem zPm(s:JV)(h:s.length<=1000):Wp (zGv s) λv=>∃n,v=.int .i64 n/\(-9223372036854775808<=n/\n<=9223372036854775807):=by
 rw[zPU];obtain⟨n,v,e,h0,h1⟩:=zTu s h;exact zUP e (Wb ⟨n,rfl,h0,h1⟩)
theorem zUU(p:PS)(h:Inv p):Wp (zDj p.s p.i p.dp p.n p.e p.fa p.l) λv=>∃t q,v=zBE (.str t) q/\Inv q/\Stp 0 p q/\tx 32 t:=by
 rw[zLu];refine wdU (zFo p h) λq g=>wdS (zUl (ofNat 32) (by decide) (by decide) q g.1) λt r hr=>?_
 have hl:tx 32 t:=⟨by have:=hr.2.2.1;rw[QB]at this;omega,hr.2.2.2⟩
 refine Wa (λ_=>wdU (zDz _ _ (by decide) r hr.1.z) λu hu=>Wb ⟨t,u,rfl,hu.1,?_,hl⟩) λ_=>Wb ⟨t,r,rfl,hr.1,g.2.1.qI hr.2.1,hl⟩
 have:=g.2.1.qI hr.2.1;exact .bad (hu.2.1.trans this.s) (by rw[hu.2.2.1];exact this.i) hu.2.2.2
theorem zSa(p:PS)(h:Inv p):Wp (zCs p.s p.i p.dp p.n p.e p.fa p.l) λv=>∃x q,v=zBE (.int .i64 x) q/\Inv q/\Stp 0 p q/\(-9223372036854775808<=x/\x<=9223372036854775807):=by
 rw[zJ1];refine wdU (zFo p h) λq g=>wdS (zTw (ofNat 12) (by decide) (by decide) q g.1) λt r hr=>?_
 have hl:t.length<=1000:=by have:=hr.2.2.1;rw[QB]at this;omega
 refine Wa (λ_=>wdU (zDz _ _ (by decide) r hr.1.z) λu hu=>zT0 (zPm t hl) λx j=>Wb ⟨x,u,rfl,hu.1,?_,j⟩) λ_=>zT0 (zPm t hl) λx j=>Wb ⟨x,r,rfl,hr.1,g.2.1.qI hr.2.1,j⟩
 have:=g.2.1.qI hr.2.1;exact .bad (hu.2.1.trans this.s) (by rw[hu.2.2.1];exact this.i) hu.2.2.2
def zAF(p:PS)(v:AV×Heap×Vecs):Prop:=∃x q,v=zBE (.int .i64 x) q/\Inv q/\Stp 0 p q/\Res p q x
theorem zAF.bad{p q:PS}(hi:Inv q)(j:q.s=p.s)(e:p.i<=q.i)(g:¬q.nf)(x:Int):zAF p (zBE (.int .i64 x) q):=⟨x,q,rfl,hi,.bad j e g,λh=>absurd h g⟩
theorem Res.of{a:Int}{p q r:PS}{x:Int}(h:Stp a p q)(k:Res q r x)(g:Stp (-1) q r):Res p r x:=λhr=>by
 obtain⟨e,j⟩:=k hr;have:=(h.nf (g.nf hr).1).2.2.2;exact⟨e,by omega⟩
theorem zRk(p q:PS)(j:Inv p)(g:Inv q)(h:Stp 1 p q)(k:Int)(s t:JV)(n a b:Int)(z:q.nf->WFn q.l.length (nd6 k s t n a b)):Wp (zAf k s t n a b q.s q.i q.dp q.n q.e q.fa q.l) (zAF p):=by
 refine(zUT q g k s t n a b (λA=>?_) z).mono λv hv=>?_
 .obtain⟨p1,p2,p3,p4⟩:=h.nf A;have:=(j.ok p1).2.2.1;omega
 .obtain⟨x,r,rfl,h1,h2,h3⟩:=hv;exact⟨x,r,rfl,h1,h.trans h2,Res.of h h3 h2⟩
theorem WFn.leaf{j:Nat}{k n:Int}{s t:JV}(x:-9223372036854775808<=n/\n<=9223372036854775807)(g:tx 24 s)(l:tx 32 t)(h:k<=6):WFn j (nd6 k s t n (Int.negSucc 0) (Int.negSucc 0)):=⟨k,s,t,n,_,_,rfl,x,g,l,λe=>by omega,λe=>by omega⟩
theorem zI9(p q:PS)(A:Inv p)(z:Inv q)(h:Stp 1 p q)(k:Int)(s t:JV)(n:Int)(C:-9223372036854775808<=n/\n<=9223372036854775807)(B:tx 24 s)(g:tx 32 t)(j:k<=6):Wp (zAb q.s q.i q.dp q.n q.e q.fa k s t n (Int.negSucc 0) (Int.negSucc 0) q.l) (zAF p):=by
 rw[zJK];refine wdI (R:=λx r=>Inv r/\Stp 0 p r/\Res p r x) ((zRk p q A z h k s t n _ _ λ_=>WFn.leaf C B g j).mono λv hv=>?_) λx r hr=>Wb ⟨x,r,rfl,hr⟩
 obtain⟨x,r,rfl,hr⟩:=hv;exact⟨x,r,rfl,hr⟩
theorem zRl(p q:PS)(g:Inv p)(x:Inv q)(h:Stp 1 p q)(b:Bool)(k:Int)(s t:JV)(n:Int)(C:-9223372036854775808<=n/\n<=9223372036854775807)(A:tx 24 s)(B:tx 32 t)(j:k<=6):Wp (zBd b q.s q.i q.dp q.n q.e q.fa k s t n (Int.negSucc 0) (Int.negSucc 0) q.l) (zAF p):=by
 rw[zJL];refine Wa (λ_=>wdU (zDz _ _ (by decide) q x.z) λr hr=>zI9 p r g hr.1 (.bad (hr.2.1.trans h.s) (by rw[hr.2.2.1];exact h.i) hr.2.2.2) k s t n C A B j) λ_=>zI9 p q g x h k s t n C A B j
theorem z64:(-9223372036854775808:Int)<=ofNat 0/\ofNat 0<=(9223372036854775807:Int):=by decide
theorem zap(p q:PS)(x:Inv p)(A:Inv q)(h:Stp 0 p q)(i:Int)(s:JV)(z:tx 24 s):Wp (zDS i s q.s q.i q.dp q.n q.e q.fa q.l) (zAF p):=by
 rw[zJM];refine wdU (zJy i q A) λr hr=>?_
 have g:Stp 1 p r:=h.qI hr.2.1;have j:∀{u v:PS},Stp 1 p u->Stp 0 u v->Stp 1 p v:=λa b=>a.trans b
 refine wdB (zGu r hr.1 _ (by decide)) λb u hu=>Wa (λ_=>wdS (zUU u hu.1) λt v hv=>zI9 p v x hv.1 (j (j g hu.2.1) hv.2.1) _ s t _ z64 z hv.2.2 (by decide)) λ_=>?_
 have g:=j g hu.2.1;refine wdB (zGu u hu.1 _ (by decide)) λb r hr=>Wa (λ_=>wdI (zSa r hr.1) λt v hv=>zI9 p v x hv.1 (j (j g hr.2.1) hv.2.1) _ s [] _ hv.2.2 z (zDP _) (by decide)) λ_=>?_
 have g:=j g hr.2.1;refine wdB (zGu r hr.1 _ (by decide)) λb u hu=>Wa (λ_=>wdI (zSa u hu.1) λt v hv=>zI9 p v x hv.1 (j (j g hu.2.1) hv.2.1) _ s [] _ hv.2.2 z (zDP _) (by decide)) λ_=>?_
 have g:=j g hu.2.1;refine wdB (zGu u hu.1 _ (by decide)) λb r hr=>Wa (λ_=>wdS (zUU r hr.1) λt v hv=>zI9 p v x hv.1 (j (j g hr.2.1) hv.2.1) _ s t _ z64 z hv.2.2 (by decide)) λ_=>?_
 have g:=j g hr.2.1;refine wdB (zGu r hr.1 _ (by decide)) λb u hu=>Wa (λ_=>zRl p u x hu.1 (j g hu.2.1) _ _ s [] _ z64 z (zDP _) (by decide)) λ_=>?_
 have g:=j g hu.2.1;refine wdB (zGu u hu.1 _ (by decide)) λb r hr=>Wa (λ_=>zRl p r x hr.1 (j g hr.2.1) _ _ s [] _ z64 z (zDP _) (by decide)) λ_=>?_
 have g:=j g hr.2.1;exact wdB (zGu r hr.1 _ (by decide)) λb u hu=>zRl p u x hu.1 (j g hu.2.1) _ _ s [] _ z64 z (zDP _) (by decide)
theorem zUV(p q:PS)(j:Inv p)(g:Inv q)(h:Stp 0 p q)(i:Int)(s:JV)(b:Bool)(x:tx 24 s):Wp (zCh i s b q.s q.i q.dp q.n q.e q.fa q.l) (zAF p):=by
 rw[zJN];exact Wa (λ_=>wdU (zDz _ _ (by decide) q g.z) λr hr=>Wb (.bad hr.1 (hr.2.1.trans h.s) (by rw[hr.2.2.1];exact h.i) hr.2.2.2 _)) λ_=>zap p q j g h i s x
theorem zaq(p q:PS)(z:Inv p)(j:Inv q)(h:Stp 0 p q)(i:Int)(s:JV)(A:tx 24 s):Wp (zDT i s q.s q.i q.dp q.n q.e q.fa q.l) (zAF p):=by
 rw[zJO];refine Wc (λg=>?_) λ_=>zUV p q z j h i s _ A
 obtain⟨x,B,_⟩:=zTp j.i0 g;rw[B];exact zAh (zHS x) λb _=>zUV p q z j h i s _ A
theorem zRm(p q:PS)(g:Inv p)(j:Inv q)(h:Stp 0 p q)(i:Int)(s:JV)(b:Bool)(z:tx 24 s):Wp (zBe i s b q.s q.i q.dp q.n q.e q.fa q.l) (zAF p):=by
 rw[zJR];refine Wa (λ_=>wdU (zJy i q j) λr hr=>wdI (R:=λx r=>Inv r/\Stp 0 p r/\Res p r x) ((zRk p r g hr.1 (h.qI hr.2.1) _ _ _ _ _ _ λ_=>WFn.leaf z64 (zDP _) (zDP _) (by decide)).mono λv hv=>?_) λx r hr=>Wb ⟨x,r,rfl,hr⟩) λ_=>zaq p q g j h i s z
 obtain⟨x,r,rfl,hr⟩:=hv;exact⟨x,r,rfl,hr⟩
theorem zar(p:PS)(j:Inv p)(i:Int):Wp (zDU i p.s p.i p.dp p.n p.e p.fa p.l) (zAF p):=by
 rw[zJP];refine wdS (zUk (ofNat 24) (by decide) (by decide) p j) λt q g=>?_
 have hl:tx 24 t:=⟨by have:=g.2.2.1;rw[QB]at this;omega,g.2.2.2⟩
 refine Wa (λ_=>Wc (λz=>?_) λ_=>zRm p q j g.1 g.2.1 i t _ hl) λ_=>zRm p q j g.1 g.2.1 i t _ hl
 obtain⟨x,A,_⟩:=zTp g.1.i0 z;rw[A];exact zAh (zHS x) λb _=>zRm p q j g.1 g.2.1 i t _ hl
theorem zRn(p:PS)(g:Inv p)(i:Int)(b:Bool):Wp (zBf i b p.s p.i p.dp p.n p.e p.fa p.l) (zAF p):=by
 rw[zJQ];exact Wa (λ_=>wdU (zDz _ _ (by decide) p g.z) λr hr=>Wb (.bad hr.1 hr.2.1 (by rw[hr.2.2.1];exact Int.le_refl _) hr.2.2.2 _)) λ_=>zar p g i
theorem zas(p:PS)(g:Inv p):Wp (zFu p.s p.i p.dp p.n p.e p.fa p.l) (zAF p):=by
 rw[zLv];refine Wa (λ_=>zRn p g _ _) λz=>?_
 have j:p.i<ofNat p.s.length:=by
  have h1:=g.i1;have h2:¬p.i=ofNat p.s.length:=by simpa using z
  rw[QB]at h2⊢;omega
 obtain⟨x,A,_⟩:=zTp g.i0 j;rw[A];exact Wa (λ_=>zRn p g _ _) λ_=>zRn p g _ _
noncomputable def PS.m(p:PS):Nat:=(Classical.propDecidable p.nf).casesOn (λ_=>0) λ_=>(33-p.dp).toNat
theorem zRA{p:PS}(h:p.nf):p.m=(33-p.dp).toNat:=by
 unfold PS.m;cases Classical.propDecidable p.nf with
 |isTrue _=>rfl
 |isFalse e=>exact absurd h e
theorem zZi{p:PS}(h:¬p.nf):p.m=0:=by
 unfold PS.m;cases Classical.propDecidable p.nf with
 |isTrue e=>exact absurd e h
 |isFalse e=>rfl
theorem Stp.m{k:Int}{p q:PS}(h:Stp k p q):q.m<=p.m:=by
 by_cases e:q.nf
 .obtain⟨h1,h2,_⟩:=h.nf e;rw[zRA e,zRA h1,h2];exact QA _
 .rw[zZi e];exact QS _
theorem Stp.m0{k:Int}{p q:PS}(h:Stp k p q)(j:Inv p){b:Bool}{r:PS}(hi:In b q r):5*r.m+5<=5*p.m\/¬p.nf:=by
 by_cases g:r.nf
 .obtain⟨_,h1,h2,_⟩:=hi.nf g;obtain⟨h3,h4,_⟩:=h.nf h1;have:=j.ok h3;rw[zRA g,zRA h3]
  left
  omega
 .by_cases e:p.nf
  .rw[zZi g,zRA e];have:=j.ok e
   left
   omega
  .exact .inr e
def SpN(d:Nat):Prop:=∀p,Inv p->5*p.m+1<=d->Wp (zCq d p.s p.i p.dp p.n p.e p.fa p.l) (zAF p)
def zWc(d:Nat):Prop:=∀p (t:JV) (k:Int),Inv p->5*p.m+2<=d->1<=t.length->t.length<=2->k=8\/k=9->Wp (zAS d t k p.s p.i p.dp p.n p.e p.fa p.l) (zAF p)
def SpA(d:Nat):Prop:=∀p,Inv p->5*p.m+3<=d->Wp (zDG d p.s p.i p.dp p.n p.e p.fa p.l) (zAF p)
def zWd(d:Nat):Prop:=∀p (t:JV) (k:Int),Inv p->5*p.m+4<=d->1<=t.length->t.length<=2->k=8\/k=9->Wp (zAR d t k p.s p.i p.dp p.n p.e p.fa p.l) (zAF p)
def SpO(d:Nat):Prop:=∀p,Inv p->5*p.m+5<=d->Wp (zEj d p.s p.i p.dp p.n p.e p.fa p.l) (zAF p)
theorem zAF.out{p:PS}{o:Option (AV×Heap×Vecs)}(h:Wp o (zAF p)):Wp o λv=>∃x q,v=zBE (.int .i64 x) q/\(Inv q/\Stp 0 p q/\Res p q x):=h
theorem WFn.two{p q r:PS}{k x y:Int}(s:k=8\/k=9)(hx:q.nf->x=(q.l.length:Int)-1/\p.l.length<q.l.length)(g:r.nf->y=(r.l.length:Int)-1/\q.l.length<r.l.length)(h:r.nf->q.nf)(hr:r.nf):WFn r.l.length (nd6 k [] [] (ofNat 0) x y):=by
 obtain⟨x1,x2⟩:=hx (h hr);obtain⟨j,z⟩:=g hr;refine⟨k,[],[],_,_,_,rfl,z64,zDP _,zDP _,λe=>by omega,λ_=>⟨q.l.length-1,r.l.length-1,?_,?_,by omega,by omega⟩⟩
 .rw[QB];omega
 .rw[QB];omega
theorem zTx(p q:PS)(j:Inv p)(g:Inv q)(h:Stp 1 p q)(k:Int)(s t:JV)(n a b:Int)(z:q.nf->WFn q.l.length (nd6 k s t n a b)):Wp (zAf k s t n a b q.s q.i q.dp q.n q.e q.fa q.l) λv=>∃x r,v=zBE (.int .i64 x) r/\(Inv r/\Stp 0 p r/\Res p r x)/\Stp (-1) q r:=by
 refine(zUT q g k s t n a b (λA=>?_) z).mono λv hv=>?_
 .obtain⟨p1,p2,p3,p4⟩:=h.nf A;have:=(j.ok p1).2.2.1;omega
 .obtain⟨x,r,rfl,h1,h2,h3⟩:=hv;exact⟨x,r,rfl,⟨h1,h.trans h2,Res.of h h3 h2⟩,h2⟩
theorem zXh{d:Nat}(J:SpN d):zWc (d+1):=by
 intro p t k H hd t1 t2 K;have loop:∀(n:Nat)(q:PS)(x:Int),Inv q->Stp 0 p q->Res p q x->q.s.length-q.i<n->Wp (zAa d n t k x q.s q.i q.dp q.n q.e q.fa q.l) (zAF p):=by
  intro n
  induction n with
  |zero=>intro q x g _ _ h;have:=g.i1;omega
  |succ n O=>
   intro q x g E I T;rw[zD1];refine Wa (λ_=>?_) λ_=>Wb ⟨x,q,rfl,g,E,I⟩
   refine wdU (zFo q g) λq1 h1=>wdB (zGu q1 h1.1 t t2) λb A h2=>?_
   have s2:=h1.2.1.qI h2.2.1;have Q:A.l=q.l:=h2.2.2.2.trans h1.2.2;have x2:Res p A x:=λD=>by rw[Q];exact I (s2.nf D).1
   refine Wa (λ_=>Wb ⟨x,A,rfl,h2.1,E.qI s2,x2⟩) λhb=>?_
   have hb:b=true:=by simpa using hb
   have S:=h2.2.2.1 hb;refine wdU (zJy q1.i A h2.1) λM h3=>?_
   have s3:=(E.qI s2).qI h3.2.1;have m3:=s3.m;refine wdI (zAF.out (J M h3.1 (by omega))) λy C h4=>?_
   have s4:Stp 1 p C:=s3.trans h4.2.1;refine wdI ((zTx p C H h4.1 s4 k [] [] _ x y λB=>WFn.two (p:=p) (q:=A) (r:=C) K x2 (λhr=>?_) (λhr=>(h3.2.1.nf (h4.2.1.nf hr).1).1) B)) λz F j=>O F z j.1.1 j.1.2.1 j.1.2.2 ?_
   .have:=h4.2.2 hr;rw[h3.2.2 (h4.2.1.nf hr).1]at this;exact this
   .have e1:=((s2.qI h3.2.1).trans h4.2.1).trans j.2;have:=h1.2.1.i;have:=h3.2.1.i;have:=h4.2.1.i;have:=j.2.i;have:F.s.length=q.s.length:=congrArg List.length e1.s;omega
 rw[zET];refine wdI (zAF.out (J p H (by omega))) λx q g=>loop _ q x g.1 g.2.1 g.2.2 ?_
 have:=g.1.i0;have:=g.1.w3;have:=zQ (n:=1025) (by omega);omega
theorem zXi{d:Nat}(J:SpA d):zWd (d+1):=by
 intro p t k H hd t1 t2 K;have loop:∀(n:Nat)(q:PS)(x:Int),Inv q->Stp 0 p q->Res p q x->q.s.length-q.i<n->Wp (z9 d n t k x q.s q.i q.dp q.n q.e q.fa q.l) (zAF p):=by
  intro n
  induction n with
  |zero=>intro q x g _ _ h;have:=g.i1;omega
  |succ n O=>
   intro q x g E I T;rw[zD0];refine Wa (λ_=>?_) λ_=>Wb ⟨x,q,rfl,g,E,I⟩
   refine wdU (zFo q g) λq1 h1=>wdB (zGu q1 h1.1 t t2) λb A h2=>?_
   have s2:=h1.2.1.qI h2.2.1;have Q:A.l=q.l:=h2.2.2.2.trans h1.2.2;have x2:Res p A x:=λD=>by rw[Q];exact I (s2.nf D).1
   refine Wa (λ_=>Wb ⟨x,A,rfl,h2.1,E.qI s2,x2⟩) λhb=>?_
   have hb:b=true:=by simpa using hb
   have S:=h2.2.2.1 hb;refine wdU (zJy q1.i A h2.1) λM h3=>?_
   have s3:=(E.qI s2).qI h3.2.1;have m3:=s3.m;refine wdI (zAF.out (J M h3.1 (by omega))) λy C h4=>?_
   have s4:Stp 1 p C:=s3.trans h4.2.1;refine wdI ((zTx p C H h4.1 s4 k [] [] _ x y λB=>WFn.two (p:=p) (q:=A) (r:=C) K x2 (λhr=>?_) (λhr=>(h3.2.1.nf (h4.2.1.nf hr).1).1) B)) λz F j=>O F z j.1.1 j.1.2.1 j.1.2.2 ?_
   .have:=h4.2.2 hr;rw[h3.2.2 (h4.2.1.nf hr).1]at this;exact this
   .have e1:=((s2.qI h3.2.1).trans h4.2.1).trans j.2;have:=h1.2.1.i;have:=h3.2.1.i;have:=h4.2.1.i;have:=j.2.i;have:F.s.length=q.s.length:=congrArg List.length e1.s;omega
 rw[zES];refine wdI (zAF.out (J p H (by omega))) λx q g=>loop _ q x g.1 g.2.1 g.2.2 ?_
 have:=g.1.i0;have:=g.1.w3;have:=zQ (n:=1025) (by omega);omega
theorem zbA{d:Nat}(h:zWc d):SpA (d+1):=by
 intro p e hd;rw[zL9];exact wdI (zAF.out (h p _ _ e (by omega) (by decide) (by decide) (.inl rfl))) λx q g=>Wb ⟨x,q,rfl,g⟩
theorem zcl{d:Nat}(h:zWd d):SpO (d+1):=by
 intro p e hd;rw[zM0];exact wdI (zAF.out (h p _ _ e (by omega) (by decide) (by decide) (.inr rfl))) λx q g=>Wb ⟨x,q,rfl,g⟩
theorem up{p q r u:PS}{b:Bool}{k:Int}(j:Inv q)(h:Stp 0 p q)(hi:In b q r)(g:Stp k r u)(hu:Inv u):Inv { u with dp:=wrapx .i64 (u.dp-1) }/\Stp k p { u with dp:=wrapx .i64 (u.dp-1) }/\(u.nf->q.l=r.l):=by
 refine⟨⟨hu.i0,hu.i1,hu.w3,λe=>?_⟩,⟨g.s.trans (hi.s.trans h.s),?_,λe=>?_⟩,λe=>(hi.nf (g.nf e).1).2.2.2.2.symm⟩
 .have e:u.nf:=e;obtain⟨d0,d1,x⟩:=hu.ok e;obtain⟨e1,e2,_⟩:=g.nf e;obtain⟨_,f1,f2,_⟩:=hi.nf e1;have:=(j.ok f1).1;refine⟨?_,?_,x⟩
  .show 0<=wrapx .i64 (u.dp-1)
   rw[zAd (by omega) (by omega)];omega
  .show wrapx .i64 (u.dp-1)<=32
   rw[zAd (by omega) (by omega)];omega
 .have:=g.i;have:=hi.i;have:=h.i;show p.i<=u.i
  omega
 .have e:u.nf:=e;obtain⟨d0,d1,x⟩:=hu.ok e;obtain⟨e1,e2,e3,e4⟩:=g.nf e;obtain⟨_,f1,f2,f3,f4⟩:=hi.nf e1;obtain⟨g1,g2,g3,g4⟩:=h.nf f1;refine⟨g1,?_,?_,?_⟩
  .show wrapx .i64 (u.dp-1)=p.dp
   rw[zAd (by omega) (by omega)];omega
  .show u.n-u.l.length=_
   rw[e3,f3,f4,g3];omega
  .show p.l.length<=u.l.length
   rw[f4]at e4;omega
theorem Res.tr{a b:Int}{p q r:PS}{x:Int}(h:Stp a p q)(k:Res q r x)(g:Stp b q r):Res p r x:=λhr=>by
 obtain⟨e,j⟩:=k hr;have:=(h.nf (g.nf hr).1).2.2.2;exact⟨e,by omega⟩
theorem zAF.tr{p q:PS}(h:Stp 0 p q){v:AV×Heap×Vecs}(k:zAF q v):zAF p v:=by
 obtain⟨x,r,rfl,h1,h2,h3⟩:=k;exact⟨x,r,rfl,h1,h.qI h2,Res.tr h h3 h2⟩
theorem zXj{d:Nat}(p q:PS)(x:Int)(b:Bool)(j:Inv q)(g:Stp 0 p q)(hr:Res p q x):Wp (zCt d x b q.s q.i q.dp q.n q.e q.fa q.l) (zAF p):=by
 rw[zJ2];refine Wa (λ_=>wdU (zDz _ _ (by decide) q j.z) λr h=>?_) λ_=>?_
 .rw[zF2];exact Wb (.bad h.1 (h.2.1.trans g.s) (by rw[h.2.2.1];exact g.i) h.2.2.2 _)
 .rw[zF2];exact Wb ⟨x,q,rfl,j,g,hr⟩
theorem In.i'{b:Bool}{p q r:PS}(h:Stp 0 p q)(k:In b q r):r.s=p.s/\p.i<=r.i:=⟨k.s.trans h.s,by rw[k.i];exact h.i⟩
theorem zbB{d:Nat}(Y:SpN d)(W:SpO d):SpN (d+1):=by
 intro p I hd;rw[zMa];refine wdU (zFo p I) λq C=>Wa (λB=>?_) λB=>?_
 .have B:¬q.nf:=zPH B;exact Wb (.bad C.1 C.2.1.s C.2.1.i B _)
 have B:q.nf:=zLh B;have U:=(C.2.1.nf B).1;refine wdB (zGu q C.1 _ (by decide)) λb q1 h1=>?_
 have s1:=C.2.1.qI h1.2.1;refine Wa (λ_=>?_) λ_=>?_
 .refine wdB (zZh q.i q1 h1.1) λV J h2=>?_
  have m2:=(s1.m0 I h2.2).resolve_right (λh=>h U)
  obtain⟨S,M⟩:=In.i' s1 h2.2;refine Wa (λhb=>Wb (.bad h2.1 S M (λA=>?_) _)) λ_=>?_
  .rw[(h2.2.nf A).1]at hb;cases hb
  refine wdU (zJy q.i J h2.1) λE h3=>?_
  have m3:=h3.2.1.m;refine wdI (zAF.out (Y E h3.1 (by omega))) λy g h4=>?_
  obtain⟨H,F,_⟩:=up h1.1 s1 h2.2 (h3.2.1.trans h4.2.1) h4.1;refine wdI (zAF.out (zRk p _ I H F (ofNat 7) [] [] (ofNat 0) y (Int.negSucc 0) λO=>?_)) λz Q D=>Wb ⟨z,Q,rfl,D⟩
  obtain⟨T,y2⟩:=h4.2.2 O;refine⟨7,[],[],_,_,_,rfl,z64,zDP _,zDP _,λ_=>⟨g.l.length-1,?_,?_⟩,λe=>by omega⟩
  .rw[QB];omega
  .show g.l.length-1<g.l.length
   omega
 .refine wdB (zGu q1 h1.1 _ (by decide)) λV J h2=>?_
  have s2:=s1.qI h2.2.1;refine Wa (λ_=>?_) λ_=>?_
  .refine wdB (zZh q.i J h2.1) λb2 E h3=>?_
   have m2:=(s2.m0 I h3.2).resolve_right (λh=>h U)
   obtain⟨S,M⟩:=In.i' s2 h3.2;refine Wa (λhb=>Wb (.bad h3.1 S M (λA=>?_) _)) λ_=>?_
   .rw[(h3.2.nf A).1]at hb;cases hb
   refine wdI (zAF.out (W E h3.1 (by omega))) λx g h4=>?_
   obtain⟨H,F,X⟩:=up h2.1 s2 h3.2 h4.2.1 h4.1;have hr:Res p { g with dp:=wrapx .i64 (g.dp-1) } x:=λj=>by
    obtain⟨T,y2⟩:=h4.2.2 j;refine⟨T,?_⟩
    have e:=X j;have:=((s2.nf (h3.2.nf (h4.2.1.nf j).1).2.1)).2.2.2;rw[e]at this;show p.l.length<g.l.length
    omega
   refine Wa (λ_=>wdB (zGu { g with dp:=wrapx .i64 (g.dp-1) } H _ (by decide)) λb3 Q D=>zXj p Q x _ D.1 (F.qI D.2.1) λK=>?_) λ_=>zXj p { g with dp:=wrapx .i64 (g.dp-1) } x _ H F hr
   rw[D.2.2.2];exact hr (D.2.1.nf K).1
  .exact wdI (zAF.out ((zas J h2.1).mono λv hv=>zAF.tr s2 hv)) λx E h3=>Wb ⟨x,E,rfl,h3⟩
theorem zdi:SpN 0/\zWc 0/\SpA 0/\zWd 0/\SpO 0:=⟨λp _ h=>by omega,λp _ _ _ h=>by omega,λp _ h=>by omega,λp _ _ _ h=>by omega,λp _ h=>by omega⟩
theorem zVL(d:Nat):SpN d/\zWc d/\SpA d/\zWd d/\SpO d:=by
 induction d with
 |zero=>exact zdi
 |succ d e=>exact⟨zbB e.1 e.2.2.2.2,zXh e.1,zbA e.2.1,zXi e.2.2.1,zcl e.2.2.2.1⟩
def Ats(es:JE):Prop:=(∀e∈es,∃s t,e=.agg [.str s,.str t])/\es.length<=2000000
abbrev isE(v:AV):Prop:=∃n,v=.int .i64 n/\True
theorem Ats.at{β:Type}{P:β->Prop}{wk:Bool}{es:JE}(h:Ats es){i:Nat}(hi:i<es.length){f:JV->JV->Option β}(k:∀s t,es[i]=.agg [.str s,.str t]->Wp (f s t) P):Wp (dK wk yN (ixN es (ofNat i)) f) P:=by
 obtain⟨s,t,e⟩:=h.1 _ (Qf hi);exact zah ((zAO hi).trans (congrArg some e)) (k _ _ e)
theorem zat{n k:Nat}(h:n<=2000001)(e:k<=200):n*k<=ze/\n<=ze:=by
 have:n*k<=2000001*200:=Nat.mul_le_mul h e;unfold ze;omega
def within(a b c d x y z u:Int):Prop:=okA a b c d->okA x y z u/\x<=a/\y<=b/\z<=c/\u<=d
theorem TL.at{es:JE}{L:Nat->Nat}{m j:Nat}(h:TL es L m)(e:j<m):∃k s t n l r,ixN es (ofNat j)=some (nd6 k s t n l r)/\(-9223372036854775808<=n/\n<=9223372036854775807)/\s.length+t.length+24<=L j/\L j<=zQb ∧
 (k=7->∃a:Nat,l=ofNat a/\a<j/\L a+3<=L j)/\(k=8\/k=9->∃a b:Nat,l=ofNat a/\r=ofNat b/\a<j/\b<j/\L a+L b+7<=L j):=h j e
abbrev oQ(Q:Nat->Prop)(s:JV):Prop:=∀c∈s,Q c
theorem zCL{Q:Nat->Prop}{a b:JV}(h:oQ Q a)(k:oQ Q b):oQ Q (a++b):=λc hc=>(QJ.1 hc).elim (h c) (k c)
abbrev isT(Q:Nat->Prop)(m:Nat)(v:AV):Prop:=∃t,v=.str t/\(t.length<=m/\oQ Q t)
abbrev NC(Q:Nat->Prop)(es:JE):Prop:=∀(j:Nat) k s t n l r,es[j]?=some (nd6 k s t n l r)->oQ Q s/\oQ Q t
theorem zau{l:JV}(h:l.all (λc=>decide (zC7 c))=true):okS l:=λc hc=>Qi (QF.1 h c hc)
theorem zGg{Q:Nat->Prop}(e:∀c,zC7 c->Q c){l:JV}(h:l.all (λc=>decide (zC7 c))=true):oQ Q l:=λc hc=>e c (zau h c hc)
theorem zbC{Q:Nat->Prop}(j:∀c,zC7 c->Q c){d:Nat}{es:JE}{L:Nat->Nat}{m a:Nat}(h:TL es L m)(C:a<m)(hd:Wp (zB1 d es (ofNat a)) (isT Q (L a)))(g:Int):Wp (zBz (d+1) (ofNat a) g es) (isT Q (L a+2)):=by
 rw[zPT];obtain⟨k,s,t,n,l,r,B,_,_,z,_⟩:=h.at C;refine zMz hd λu hu=>zEO B ?_
 have:∃x,zHe k=some (.int .i64 x):=by
  have:Wp (zHe k) isE:=by
   rw[zQ2]
   repeat' first|refine Wa (λ_=>?_) (λ_=>?_)|exact Wb ⟨_,rfl,trivial⟩
  obtain⟨v,e,x,rfl,_⟩:=this;exact⟨x,e⟩
 obtain⟨x,A⟩:=this;refine zCe A (Wc (λ_=>We ?_ (We ?_ (Wb ⟨_,rfl,?_,zCL (zCL (zGg j rfl) hu.2) (zGg j rfl)⟩))) λ_=>Wb ⟨_,rfl,by omega,hu.2⟩)
 all_goals simp only[QH,QR,Qo]
 all_goals unfold zQb at z
 all_goals first|omega|(unfold zh;omega)
theorem zav{Q:Nat->Prop}(g:∀c,zC7 c->Q c){es:JE}{L:Nat->Nat}{m:Nat}(h:TL es L m)(V:NC Q es):∀(d j:Nat),2*j+1<=d->j<m->Wp (zB1 d es (ofNat j)) (isT Q (L j)):=by
 intro d
 induction d using Nat.strongRecOn with
 |_ d U=>
  intro j hd T;obtain⟨k,s,t,n,l,r,J,I,h1,M,O,B⟩:=h.at T;obtain⟨d,rfl⟩:∃E,d=E+1:=⟨d-1,by omega⟩
  have part:∀a:Nat,a<j->∀e:Int,Wp (zBz d (ofNat a) e es) (isT Q (L a+2)):=λa x e=>by
   obtain⟨d2,rfl⟩:∃E,d=E+1:=⟨d-1,by omega⟩
   exact zbC g h (by omega) (U d2 (by omega) a (by omega) (by omega)) e
  obtain⟨A,K⟩:=V j k s t n l r J;unfold zQb at M;have m0:zh=9223372036854775807:=rfl;rw[zRq];refine zEO J ?_
  refine Wa (λ_=>Wb ⟨_,rfl,by show 3<=_;omega,zGg g rfl⟩) λ_=>?_
  refine Wa (λ_=>We ?_ (We ?_ (Wb ⟨_,rfl,?_,zCL (zCL A (zGg g rfl)) K⟩))) λ_=>?_
  any_goals (simp only[QH,QR,Qo];omega)
  refine Wa (λ_=>We ?_ (We ?_ (Wb ⟨_,rfl,?_,zCL (zCL A (zGg g rfl)) K⟩))) λ_=>?_
  any_goals (simp only[QH,QR,Qo];omega)
  obtain⟨f,H,S,C⟩:=zVJ n I.1 I.2;have C:oQ Q f:=λc hc=>g c (C c hc)
  refine Wa (λ_=>We ?_ (qk_s H (We ?_ (Wb ⟨_,rfl,?_,zCL (zCL A (zGg g rfl)) C⟩)))) λ_=>?_
  any_goals (simp only[QH,QR,Qo];omega)
  refine Wa (λ_=>We ?_ (qk_s H (We ?_ (Wb ⟨_,rfl,?_,zCL (zCL A (zGg g rfl)) C⟩)))) λ_=>?_
  any_goals (simp only[QH,QR,Qo];omega)
  refine Wa (λz=>?_) λ_=>?_
  .obtain⟨a,rfl,x,F⟩:=O (by simpa using z)
   refine zMz (part a x _) λu hu=>We ?_ (Wb ⟨_,rfl,?_,zCL (zGg g rfl) hu.2⟩)
   all_goals simp only[QH,QR,Qo]
   all_goals omega
  refine Wa (λz=>?_) λ_=>?_
  .obtain⟨a,b,rfl,rfl,x,hb,F⟩:=B (.inl (by simpa using z))
   refine zMz (part a x _) λu hu=>We ?_ (zMz (part b hb _) λw D=>We ?_ (Wb ⟨_,rfl,?_,zCL (zCL hu.2 (zGg g rfl)) D.2⟩))
   all_goals simp only[QH,QR,Qo]
   all_goals omega
  refine Wa (λz=>?_) λ_=>Wb ⟨_,rfl,by omega,A⟩
  .obtain⟨a,b,rfl,rfl,x,hb,F⟩:=B (.inr (by simpa using z))
   refine zMz (part a x _) λu hu=>We ?_ (zMz (part b hb _) λw D=>We ?_ (Wb ⟨_,rfl,?_,zCL (zCL hu.2 (zGg g rfl)) D.2⟩))
   all_goals simp only[QH,QR,Qo]
   all_goals omega
theorem WF.TL{l:JE}(h:WF l)(hl:l.length<=64):TL l fbL l.length:=by
 intro j A;obtain⟨k,s,t,n,a,b,H,F,E,B,D,z⟩:=h j _ (QD A);refine⟨k,s,t,n,a,b,by rw[QD A,H],F,by have:=zby j;have:=E.1;have:=B.1;omega,zan (by omega),λe=>?_,λe=>?_⟩
 .obtain⟨x,rfl,g⟩:=D e;exact⟨x,rfl,g,zal g⟩
 .obtain⟨x,C,rfl,rfl,g,hb⟩:=z e;exact⟨x,C,rfl,rfl,by omega,hb,zam g hb⟩
theorem WF.NC{l:JE}(h:WF l):NC zC7 l:=λj k s t n a b e=>by
 obtain⟨F,A,C,B,E,D,z,_,x,g,_⟩:=h j _ e;cases z;exact⟨x.2,g.2⟩
theorem zNQ{Q:Nat->Prop}(g:∀c,zC7 c->Q c){l:JE}{L:Nat->Nat}(h:TL l L l.length)(j:NC Q l)(h0:0<l.length)(hl:l.length<=64):Wp (zB1 zp l (wrapx .i64 (ofNat l.length-1))) λv=>∃t,v=.str t/\oQ Q t:=by
 rw[zFH h0 (by omega)]
 exact(zav g h j zp (l.length-1) (Qd (zQ (by omega))) (by omega)).mono λv ⟨t,e,h⟩=>⟨t,e,h.2⟩
def isP(v:AV):Prop:=(∃e f,v=.qe [.agg [.qa],.agg [.int .i64 e,.int .i64 f]]/\¬(e=0/\f=0))\/∃l,v=.qe [.agg [.qd 6 l],.agg [.int .i64 (ofNat 0),.int .i64 (ofNat 0)]]/\WF l/\l.length<=64
theorem zPI(q:PS)(j:Inv q):Wp (zDk q.s q.i q.dp q.n q.e q.fa (ofNat 0) (ofNat 0) q.l) isP:=by
 rw[zN1];refine Wa (λg=>?_) λg=>?_
 .have g:¬q.nf:=zPH g;exact Wb (.inl ⟨_,_,rfl,g⟩)
 .have g:q.nf:=zLh g;obtain⟨_,_,h1,h2,h3⟩:=j.ok g;exact Wb (.inr ⟨_,rfl,h3,by omega⟩)
theorem zTy(q:PS)(g:Inv q)(h0:q.nf->0<q.l.length):Wp (zE0 q.s q.i q.dp q.n q.e q.fa (ofNat 0) (ofNat 0) q.l) isP:=by
 rw[zN2];refine Wa (λj=>?_) λ_=>zPI q g
 have j:q.nf:=zQQ.1 j;obtain⟨_,_,h1,h2,h3⟩:=g.ok j;have hl:q.l.length<=64:=by omega
 exact zMz (zNQ (λ_ h=>h) (h3.TL hl) h3.NC (h0 j) hl) λt _=>Wc (λ_=>wdU (zDz _ _ (by decide) q g.z) λr hr=>zPI r hr.1) λ_=>zPI q g
theorem zQR(s:JV)(h8:∀c∈s,c<256):Wp (zB7 s) isP:=by
 rw[zKC];refine Wc (λ_=>Wb (.inl ⟨_,_,rfl,λh=>(by cases h.1)⟩)) λB=>?_
 rw[QB]at B;have A:Inv ⟨s,ofNat 0,ofNat 0,ofNat 0,ofNat 0,ofNat 0,[],h8⟩:=⟨Int.le_refl _,Qj _,by show s.length<=1024;omega,λ_=>⟨Int.le_refl _,(by decide:ofNat 0<=32),Int.le_refl _,(by decide:ofNat 0<=64),λj v h=>by cases h⟩⟩
 have C:5*(PS.mk s (ofNat 0) (ofNat 0) (ofNat 0) (ofNat 0) (ofNat 0) [] h8).m+5<=zp:=by
  rw[zRA ⟨rfl,rfl⟩];have:zp=1180591620717411303424:=zI7;rw[this];exact(by decide:5*(33-ofNat 0).toNat+5<=1180591620717411303424)
 refine wdI (zAF.out ((zVL zp).2.2.2.2 _ A C)) λx q g=>wdU (zFo q g.1) λr hr=>?_
 have h0:r.nf->0<r.l.length:=λe=>by
  have:=(g.2.2 (hr.2.1.nf e).1).2;rw[hr.2.2];exact this
 exact Wc (λ_=>wdU (zDz _ _ (by decide) r hr.1.z) λu hu=>zTy u hu.1 λe=>absurd e hu.2.2.2) λ_=>zTy r hr.1 h0
abbrev zT1(k:Int)(s t:JV)(n l r:Int):AV:=.agg [.int .i64 k,.str s,.str t,.int .i64 n,.int .i64 l,.int .i64 r]
def Nds(es:JE):Prop:=(∀e∈es,∃k s t n l r,e=zT1 k s t n l r/\-9223372036854775808<=n/\n<=9223372036854775807/\tx 2000000 s/\tx 2000000 t)/\es.length<=2000000
def NdB(es:JE):Prop:=(∀e∈es,∃k s t n l r,e=zT1 k s t n l r/\-9223372036854775808<=n/\n<=9223372036854775807/\(s.length<=2000000/\∀c∈s,c<256)/\(t.length<=2000000/\∀c∈t,c<256))/\es.length<=2000000
theorem zVM{c:Nat}(h:zC7 c):c<256:=by have:=h.2.1;omega
theorem Nds.b{es:JE}(h:Nds es):NdB es:=⟨λe g=>by
 obtain⟨k,s,t,n,l,r,e1,h1,h2,h3,h4⟩:=h.1 e g;exact⟨k,s,t,n,l,r,e1,h1,h2,⟨h3.1,λc hc=>zVM (h3.2 c hc)⟩,h4.1,λc hc=>zVM (h4.2 c hc)⟩,h.2⟩
theorem NdB.at{β:Type}{P:β->Prop}{wk:Bool}{es:JE}(h:NdB es){i:Nat}(hi:i<es.length){f:Int->JV->JV->Int->Int->Int->Option β}(k:∀e s t n l r,es[i]=zT1 e s t n l r->-9223372036854775808<=n->n<=9223372036854775807->Wp (f e s t n l r) P):Wp (dK wk yt (ixN es (ofNat i)) f) P:=by
 obtain⟨e,s,t,n,l,r,g,h1,h2,_⟩:=h.1 _ (Qf hi);exact zEO ((zAO hi).trans (congrArg some g)) (k _ _ _ _ _ _ g h1 h2)
theorem zMJ(es g:JE)(h:NdB es)(h':NdB g):Wp (zU es g) λv=>∃b,v=.bool b/\(b=true->es=g):=by
 have loop:es.length=g.length->∀(n i:Nat),i<=es.length->es.length-i<n->(∀j (h1:j<es.length) (h2:j<g.length),j<i->es[j]=g[j])->Wp (zY n es g (ofNat es.length) (ofNat i)) λv=>∃b,v=.bool b/\(b=true->es=g):=by
  intro hl n
  induction n with
  |zero=>intro i _ h;omega
  |succ n T=>
   intro i hi U J;rw[zBK];refine Wp.lt (λx=>h.at x λk s t z l r e1 _ _=>h'.at (hl▸x) λH A E M K C e2 _ _=>?_) λO=>Wb ⟨_,rfl,λ_=>List.ext_getElem hl λj h1 h2=>J j h1 h2 (by omega)⟩
   show Wp (br (!(k==H&&(zi s A&&(zi t E&&(z==M&&(l==K&&r==C)))))) _ _) _
   refine Wa (λ_=>Wb ⟨_,rfl,λh=>by cases h⟩) λhb=>?_
   rw[zo (by have:=h.2;omega)]
   refine T (i+1) x (by omega) λj h1 h2 V=>?_
   rcases Nat.lt_or_ge j i with q|q
   .exact J j h1 h2 q
   .obtain rfl:j=i:=by omega
    have hb:(k==H&&(zi s A&&(zi t E&&(z==M&&(l==K&&r==C)))))=true:=by simpa using hb
    simp only[qr]at hb;obtain⟨B,S,Q,I,D,F⟩:=hb;rw[e1,e2];have:=zP S;have:=zP Q;simp only[beq_iff_eq]at B I D F;subst B I D F;simp_all
 rw[zCj];refine Wa (λ_=>Wb ⟨_,rfl,λh=>by cases h⟩) λe=>loop ?_ _ 0 (QS _) (zQ (by have:=h.2;omega)) λj _ _ h=>absurd h (Nat.not_lt_zero _)
 have e:(es.length:Int)=g.length:=by simpa using e
 exact Int.ofNat_inj.1 e
theorem zJz(es g:JE)(h:NdB es)(h':NdB g):Wp (zU es g) isB:=(zMJ es g h h').mono λv ⟨b,e,_⟩=>⟨b,e,trivial⟩
def zLi(us:JE)(c:Nat->Int)(m:Nat):Prop:=us.length=m/\∀j,j<m->us[j]?=some (.int .i64 (c j))
theorem zOG{us:JE}{j:Nat}{x:Int}(h:us[j]?=some (.int .i64 x)):ldE us (Int.toNat (ofNat j)) 0 1 false=some (.int .i64 x):=by
 show(match us[j]? with|some e=>Go.Sy.part e.cells 0 1 false|none=>none)=_
 rw[h];rfl
theorem zLi.set{us:JE}{c:Nat->Int}{m a:Nat}(h:zLi us c m)(s:a<m)(x:Int):zLi (us.set a (.int .i64 x)) (upd c a x) m:=by
 refine⟨by rw[List.length_set];exact h.1,λj g=>?_⟩
 by_cases e:j=a
 .subst e;rw[zEB,List.getElem?_set_self (by rw[h.1];exact g)]
 .rw[zBp e,List.getElem?_set_ne (λl=>e l.symm)]
  exact h.2 j g
def zK3:Nat:=4000100
def Bad(c:Nat->Int)(m:Nat):Prop:=∃j,j<m/\2<=c j
structure Sh(es:JE)(L:Nat->Nat)(c:Nat->Int)(i T:Nat):Prop where
 tl:TL es L i
 le:∀j,j<i->L j<=zK3*i
 sum:rs L c i+T<=zK3*i
 qK:∀j,j<i->c j=0\/c j=1
 new:∀j,i<=j->c j=0
def Ok(es:JE)(c:Nat->Int)(m i T:Nat)(e:JV):Prop:=Bad c m\/∃L,Sh es L c i T/\(e.map L).foldr (·+·) 0<=T
theorem Sh.take{es:JE}{L:Nat->Nat}{c:Nat->Int}{i T a:Nat}(h:Sh es L c i T)(l:a<i)(h0:c a=0):Sh es L (upd c a (c a+1)) i (T+L a):=by
 refine⟨h.tl,h.le,?_,λj g=>?_,λj g=>?_⟩
 .have:=zUS (L:=L) h0 (show c a+1≠0 by omega) l
  have:=h.sum;omega
 .by_cases e:j=a
  .subst e;rw[zEB];omega
  .rw[zBp e];exact h.qK j g
 .rw[zBp (by omega)];exact h.new j g
theorem Ok.take{es:JE}{c:Nat->Int}{m i T a:Nat}{g:JV}(h:Ok es c m i T g)(l:a<i)(s:i<=m)(hc:∀j,0<=c j):∃z,Ok es (upd c a (c a+1)) m i z (a::g):=by
 rcases h with⟨j,x,h2⟩|⟨L,h,A⟩
 .refine⟨0,.inl ⟨j,x,?_⟩⟩
  by_cases e:j=a
  .subst e;rw[zEB];omega
  .rw[zBp e];exact h2
 .rcases h.qK a l with h0|h1
  .refine⟨T+L a,.inr ⟨L,h.take l h0,?_⟩⟩
   show L a+(g.map L).foldr (·+·) 0<=_
   omega
  .exact⟨0,.inl ⟨a,by omega,by rw[zEB];omega⟩⟩
theorem Ok.next{es:JE}{c:Nat->Int}{m i T:Nat}{A:JV}(h:Ok es c m i T A)(J:i<m)(hi:i<64){k:Int}{s t:JV}{n l r:Int}(X:es[i]?=some (nd6 k s t n l r))(V:-9223372036854775808<=n/\n<=9223372036854775807)(hs:s.length+t.length+24<=zK3)
  (M:k=7->∃a:Nat,l=ofNat a/\a<i/\A=[a]) (D:k=8\/k=9->∃a b:Nat,l=ofNat a/\r=ofNat b/\a<i/\b<i/\A=[b,a]):Ok es c m (i+1) 0 []:=by
 rcases h with hb|⟨L,h,x⟩
 .exact .inl hb
 .refine .inr ⟨upd L i (T+zK3),⟨λj z=>?_,λj z=>?_,?_,λj z=>?_,λj z=>h.new j (by omega)⟩,QA _⟩
  .by_cases e:j=i
   .subst e;have hT:T<=zK3*j:=by have:=h.sum;omega
    refine⟨k,s,t,n,l,r,X,V,by rw[zEB];omega,by rw[zEB];unfold zK3 zQb at *;omega,λe=>?_,λe=>?_⟩
    .obtain⟨a,rfl,g,rfl⟩:=M e;have x:L a+0<=T:=x;exact⟨a,rfl,g,by rw[zEB,zBp (by omega)];unfold zK3;omega⟩
    .obtain⟨a,b,rfl,rfl,g,hb,rfl⟩:=D e;have x:L b+(L a+0)<=T:=x;exact⟨a,b,rfl,rfl,g,hb,by rw[zEB,zBp (by omega),zBp (by omega)];unfold zK3;omega⟩
   .obtain⟨Q,E,I,F,W,H,q1,Y,O,U,S,K⟩:=h.tl j (by omega)
    refine⟨Q,E,I,F,W,H,q1,Y,by rw[zBp e];exact O,by rw[zBp e];exact U,λB=>?_,λB=>?_⟩
    .obtain⟨a,rfl,g,C⟩:=S B;exact⟨a,rfl,g,by rw[zBp e,zBp (by omega)];exact C⟩
    .obtain⟨a,b,rfl,rfl,g,hb,C⟩:=K B;exact⟨a,b,rfl,rfl,g,hb,by rw[zBp e,zBp (by omega),zBp (by omega)];exact C⟩
  .by_cases e:j=i
   .subst e;rw[zEB];have:=h.sum;rw[Nat.mul_add];omega
   .rw[zBp e];have:=h.le j (by omega);rw[Nat.mul_add];omega
  .rw[rs,zPG (L':=L) (c':=c) (λj z=>zBp (by omega)) λ_ _=>rfl,zEB,if_pos (h.new i (QA _)),Nat.mul_add]
   have:=h.sum;omega
  .by_cases e:j=i
   .subst e;exact .inl (h.new j (QA _))
   .exact h.qK j (by omega)
abbrev zQc(es:JE)(v:AV):Prop:=∃b,v=.bool b/\(b=true->0<es.length/\es.length<=64/\∃L,TL es L es.length)
theorem zEc{es:JE}:zQc es (.bool false):=⟨false,rfl,λh=>by cases h⟩
theorem zVN(es us:JE)(c:Nat->Int)(hu:zLi us c es.length)(h0:0<es.length)(z:es.length<=64)(s:Ok es c es.length es.length 0 []):∀(n i:Nat),i<=es.length->es.length-i<n->(∀j,j<i->j<es.length-1->c j=1)->Wp (zCo n es (ofNat us.length) (ofNat i) us) (zQc es):=by
 intro n
 induction n with
 |zero=>intro i _ h;omega
 |succ n A=>
  intro i hi E x;have C:=hu.1;rw[zL7,hu.1];have g:wrapx .i64 (ofNat es.length-1)=ofNat (es.length-1):=zFH h0 (by omega)
  refine Wp.lt (λl=>?_) λB=>?_
  .refine zIR l (zCe (zOG (hu.2 i l)) ?_)
   rw[g,zo (by omega),←hu.1]
   refine Wp.lt (λhl=>Wa (λ_=>Wb zEc) λh1=>A (i+1) l (by omega) λj h2 h3=>?_) λhl=>A (i+1) l (by omega) λj h2 h3=>?_
   .by_cases e:j=i
    .subst e;simpa using h1
    .exact x j (by omega) h3
   .exact x j (by omega) h3
  .rw[g];refine zIR (by omega) (zCe (zOG (hu.2 _ (by omega))) (Wb ⟨_,rfl,λhb=>⟨h0,z,?_⟩⟩))
   have hb:c (es.length-1)=0:=by simpa using hb
   rcases s with⟨j,D,h2⟩|⟨L,h,_⟩
   .by_cases e:j<es.length-1
    .have:=x j (by omega) e;omega
    .have:j=es.length-1:=by omega
     subst this;omega
   .exact⟨L,h.tl⟩
theorem zKN{es us parts:JE}{g n i x:Nat}{c:Nat->Int}{k:Int}{P:AV->Prop}(hu:zLi us c es.length)(hc:∀j,0<=c j/\c j<=1000)(hx:parts[x]?=some (.int .i64 k))(A:x<5)(hi:i<=es.length)(t23 t24:Int)(t22:JE)(s:P (.bool false))
  (h:∀a:Nat,k=ofNat a->a<i->Wp (zBv g n es (ofNat i) t22 t23 t24 (ofNat parts.length) (ofNat (x+1)) (us.set a (.int .i64 (c a+1))) parts) P):Wp (zBv g (n+1) es (ofNat i) t22 t23 t24 (ofNat parts.length) (ofNat x) us parts) P:=by
 have e:x<parts.length:=(QC.1 hx).1;rw[zHj];refine Wp.lt (λ_=>zIR e (zCe (zOG hx) (Wc (λ_=>Wb s) λh0=>Wc (λ_=>Wb s) λh1=>?_))) λz=>absurd e (by omega)
 obtain⟨a,rfl⟩:=Int.eq_ofNat_of_zero_le (show 0<=k by omega)
 have C:a<i:=by rw[QB]at h1;omega
 have l:a<us.length:=by rw[hu.1];omega
 have B:=hc a;refine zIR l (zCe (zOG (hu.2 a (by omega))) (zIR l ?_))
 rw[zo (by omega),zAd (by omega) (by omega)]
 exact h a rfl C
theorem zL2{es us parts:JE}{e n i x:Nat}{P:AV->Prop}(hx:x=parts.length)(hi:i<1000)(t22:JE)(t23:Int)(h:Wp (zCp e es t22 t23 (ofNat (i+1)) us) P):Wp (zBv e (n+1) es (ofNat i) t22 t23 (ofNat i) (ofNat parts.length) (ofNat x) us parts) P:=by
 rw[zHj];refine Wp.lt (λh=>absurd h (by omega)) λ_=>?_
 rw[zo (by omega)]
 exact h
theorem zVO:zp=1180591620717411303421+1+1+1:=zI7
theorem zTz{c:Nat->Int}{a n:Nat}(hc:∀j,0<=c j/\c j<=(n:Int))(j:Nat):0<=upd c a (c a+1) j/\upd c a (c a+1) j<=((n+1:Nat):Int):=by
 by_cases e:j=a
 .subst e;rw[zEB];have:=hc j;omega
 .rw[zBp e];have:=hc j;omega
theorem zPn(es:JE)(h:NdB es):Wp (zH9 es) (zQc es):=by
 rw[zPS];refine Wc (λ_=>Wb zEc) λh0=>Wc (λ_=>Wb zEc) λH=>?_
 rw[QB]at h0 H;have h0:0<es.length:=by omega
 have H:es.length<=64:=by omega
 have loop:∀(n i:Nat)(us:JE)(c:Nat->Int),i<=es.length->es.length-i<n->zLi us c es.length->(∀j,0<=c j/\c j<=((2*i:Nat):Int))->Ok es c es.length i 0 []->Wp (zCp n es es (ofNat es.length) (ofNat i) us) (zQc es):=by
  intro n
  induction n with
  |zero=>intro i us c _ h;omega
  |succ n Y=>
   intro i us c hi hn hu hc A;have O:∀j,0<=c j/\c j<=1000:=λj=>by have:=hc j;omega
   have V:∀j,0<=c j/\c j<=((2*(i+1):Nat):Int):=λj=>by have:=hc j;omega
   rw[zL8];refine Wp.lt (λg=>?_) λaa=>?_
   .obtain⟨k,s,t,nn,l,r,he,U,X,hs,ht⟩:=h.1 _ (Qf g);have E:es[i]?=some (nd6 k s t nn l r):=by rw[QD g,he]
    have C:s.length+t.length+24<=zK3:=by have a1:=hs.1;have a2:=ht.1;unfold zK3;omega
    refine zEO ((zAO g).trans (congrArg some he)) ?_
    have D:∀parts,parts=[]->¬k=7->¬(k=8\/k=9)->Wp (zBP n es (ofNat i) es (ofNat es.length) (ofNat i) us parts) (zQc es):=λparts hp h7 h8=>by
     subst hp;rw[zER,zVO];exact zL2 rfl (by omega) _ _ (Y (i+1) us c g (by omega) hu V (A.next g (by omega) E ⟨U,X⟩ C (λe=>absurd e h7) λe=>absurd e h8))
    refine Wa (λJ=>?_) λB=>?_
    .have J:k=7:=by simpa using J
     refine Wa (λ_=>Wb zEc) λ_=>?_
     rw[zER,zVO];refine zKN (parts:=[.int .i64 l]) (x:=0) hu O rfl (by omega) hi _ _ _ zEc λa W z=>?_
     obtain⟨T,F⟩:=A.take z hi λj=>(hc j).1
     refine zL2 rfl (by omega) _ _ (Y (i+1) _ (upd c a (c a+1)) g (by omega) (hu.set (by omega) _) (λj=>?_) (F.next g (by omega) E ⟨U,X⟩ C (λ_=>⟨a,W,z,rfl⟩) λe=>by omega))
     have:=zTz (a:=a) hc j;omega
    .have B:¬k=7:=by simpa using B
     have two:k=8\/k=9->Wp (zBP n es (ofNat i) es (ofNat es.length) (ofNat i) us [.int .i64 l,.int .i64 r]) (zQc es):=λJ=>by
      rw[zER,zVO];refine zKN (parts:=[.int .i64 l,.int .i64 r]) (x:=0) hu O rfl (by omega) hi _ _ _ zEc λa W z=>?_
      obtain⟨T,F⟩:=A.take z hi λj=>(hc j).1
      have I:=λj=>zTz (a:=a) hc j
      refine zKN (parts:=[.int .i64 l,.int .i64 r]) (x:=1) (hu.set (by omega) _) (λj=>by have:=I j;omega) rfl (by omega) hi _ _ _ zEc λb hb K=>?_
      obtain⟨T2,S⟩:=F.take K hi λj=>(I j).1
      refine zL2 rfl (by omega) _ _ (Y (i+1) _ (upd (upd c a (c a+1)) b (upd c a (c a+1) b+1)) g (by omega) ((hu.set (by omega) _).set (by omega) _) (λj=>?_) (S.next g (by omega) E ⟨U,X⟩ C (λe=>by omega) λ_=>⟨a,b,W,hb,z,K,rfl⟩))
      have:=zTz (a:=b) I j;omega
     have j2:∀b:Bool,(b=true->k=8\/k=9)->(b=false->¬(k=8\/k=9))->Wp (zEg n es (ofNat i) es (ofNat es.length) (ofNat i) b k s t nn l r us []) (zQc es):=λb b1 b0=>by
      rw[zMW];exact Wa (λhb=>two (b1 hb)) λhb=>Wa (λ_=>Wb zEc) λ_=>Wa (λ_=>Wb zEc) λ_=>D [] rfl B (b0 hb)
     refine Wa (λJ=>j2 true (λ_=>.inl (by simpa using J)) λe=>by cases e) λM=>j2 _ (λe=>.inr (by simpa using e)) λe=>?_
     have M:¬k=8:=by simpa using M
     have ab:¬k=9:=by simpa using e
     omega
   .have:i=es.length:=by omega
    subst this;exact zVN es us c hu h0 H A _ 0 (QS _) (zQ (by omega)) λj Q=>by omega
 rw[zMX];have e1:Int.toNat (ofNat es.length)=es.length:=rfl;refine We ⟨Qj _,Int.le_refl _,?_,?_⟩ (loop _ 0 _ (λ_=>0) (QS _) (zQ (by omega)) ⟨?_,λj Q=>?_⟩ (λj=>by omega) (.inr ⟨λ_=>0,⟨λj Q=>by omega,λj Q=>by omega,QA _,λj Q=>by omega,λ_ _=>rfl⟩,QA _⟩))
 .rw[e1];unfold ze;omega
 .rw[e1];unfold ze;omega
 .rw[e1,List.length_replicate]
 .rw[e1];exact QC.2 ⟨by rw[List.length_replicate];exact Q,by rw[List.getElem_replicate]⟩
theorem zSD{l:JE}(h:WF l)(hl:l.length<=64):Nds l:=⟨λe A=>by
 obtain⟨j,B⟩:=List.getElem?_of_mem A;obtain⟨k,s,t,n,a,b,rfl,z,g,x,_⟩:=h j e B;exact⟨k,s,t,n,a,b,rfl,z.1,z.2,⟨by have:=g.1;omega,g.2⟩,⟨by have:=x.1;omega,x.2⟩⟩,by omega⟩
theorem zHT(es:JE)(h:NdB es):Wp (zB8 es) λv=>∃n,v=.int .i64 n/\(n=0->(0<es.length/\es.length<=64/\∃L,TL es L es.length)/\Nds es):=by
 have g:∀n:Int,n≠0->∃m,(AV.int .i64 n)=.int .i64 m/\(m=0->(0<es.length/\es.length<=64/\∃L,TL es L es.length)/\Nds es):=λn D=>⟨n,rfl,λe=>absurd e D⟩
 rw[zKD];refine zAh (zPn es h) λb hb=>Wa (λ_=>Wb (g _ (by decide))) λz=>?_
 have z:b=true:=by simpa using z
 obtain⟨h0,A,L,E⟩:=hb z;have J:NC (λc=>c<256) es:=λj k s t n l r e=>by
  obtain⟨T,M,S,O,U,Q,K,_,_,I,B⟩:=h.1 _ (QE e);cases K;exact⟨I.2,B.2⟩
 refine zMz (zNQ (λ_ h=>zVM h) E J h0 A) λt B=>?_
 obtain⟨v,e,hv⟩:=zQR t λc hc=>B c hc
 rw[e];rcases hv with⟨x,f,rfl,D⟩|⟨l,rfl,F,hl⟩
 .show Wp (br (!(x==0&&f==0)) _ _) _
  exact Wa (λ_=>Wb (g _ (by decide))) λH=>absurd (zLh (p:=⟨[],0,0,0,x,f,[],λc hc=>by cases hc⟩) H) D
 .rw[zSk];exact Wa (λ_=>Wb (g _ (by decide))) λ_=>zAh (zMJ l es (zSD F hl).b h) λb hb=>Wa (λ_=>Wb (g _ (by decide))) λC=>Wb ⟨_,rfl,λ_=>⟨⟨h0,A,L,E⟩,hb (by simpa using C)▸zSD F hl⟩⟩
theorem zb7(es:JE)(h:Nds es):Wp (zB8 es) λv=>∃n,v=.int .i64 n/\(n=0->0<es.length/\es.length<=64/\∃L,TL es L es.length):=(zHT es h.b).mono λv ⟨n,e,h⟩=>⟨n,e,λz=>(h z).1⟩
theorem zIU(es:JE)(h:NdB es):Wp (zB8 es) isE:=(zHT es h).mono λv ⟨n,e,_⟩=>⟨n,e,trivial⟩
abbrev Wd:=JV×Int
def wdA(base:Int)(w:Wd):AV:=.agg [.str w.1,.int .i64 (base+w.2)]
def wds(base:Int)(ws:List Wd):JE:=ws.map (wdA base)
theorem zLj(base:Int)(ws:List Wd):(wds base ws).length=ws.length:=QG _
theorem zaw(base:Int)(ws:List Wd)(s:JV)(p:Int):wds base ws++[.agg [.str s,.int .i64 (base+p)]]=wds base (ws++[(s,p)]):=by
 unfold wds;rw[Qu];rfl
end Go.Proofs.YtjfcepbllmdfcaaGreatDoor.record
namespace Go.Proofs.YtjfcepbllmdfcaaGreatDoor.record
open Go Go.Sy
variable[MX]
theorem zRo:Nds [zT1 (ofNat 1) [] [] (ofNat 0) (Int.negSucc 0) (Int.negSucc 0)]:=⟨λe g=>by
 rw[QW.1 g];exact⟨_,_,_,_,_,_,rfl,by decide,by decide,zDP _,zDP _⟩,by decide⟩
theorem zBy(x l m:Int):Wp (zA5 x l m) isB:=by
 rw[zJJ];exact Wa (λ_=>Wb ⟨_,rfl,trivial⟩) λ_=>Wb ⟨_,rfl,trivial⟩
theorem zTA(r:JE)(hr:NdB r):Wp (zB9 r) isB:=by
 rw[zKE];exact zUQ zDM (zAh (zJz r _ hr zRo.b) λx _=>Wb ⟨_,rfl,trivial⟩)
theorem zX(t:Bool):Wp (zk t) isE:=by
 rw[zFv];exact Wa (λ_=>Wb ⟨_,rfl,trivial⟩) λ_=>Wb ⟨_,rfl,trivial⟩
section
variable{k:Int}{n:JV}{u:JV}{b:Int}{c:Int}{d:Int}{i_:JV}{x1:Int}{x2:Int}{x3:Int}{x4:Int}{r:JE}{ba:Int}
theorem zYt(t:Bool)(hr:NdB r):Wp (zAo t k n u b c d i_ x1 x2 x3 x4 r ba) isE:=by
 rw[zFw];exact Wa (λ_=>zT0 (zIU r hr) λz _=>Wa (λ_=>Wa (λ_=>zX _) λ_=>zAh (zA1 i_) λx _=>Wa (λ_=>zAh (zTA r hr) λx _=>zX _) λ_=>zX _) λ_=>zX _) λ_=>zX _
theorem zYu(t:Bool)(hr:NdB r):Wp (zBr t k n u b c d i_ x1 x2 x3 x4 r ba) isE:=by
 rw[zFx];have e:=λt=>zYt (k:=k) (n:=n) (u:=u) (b:=b) (c:=c) (d:=d) (i_:=i_) (x1:=x1) (x2:=x2) (x3:=x3) (x4:=x4) (ba:=ba) t hr
 refine Wa (λ_=>Wa (λ_=>zAh (zA1 u) λx _=>Wa (λ_=>zAh (zBy ..) λx _=>Wa (λ_=>zAh (zBy ..) λx _=>Wa (λ_=>zAh (zBy ..) λx _=>Wa (λ_=>e _) λ_=>e _) λ_=>e _) λ_=>e _) λ_=>e _) λ_=>e _) λ_=>Wa (λ_=>Wa (λ_=>zAh (zA1 u) λx _=>Wa (λ_=>zAh (zBy ..) λx _=>Wa (λ_=>zAh (zBy ..) λx _=>Wa (λ_=>Wa (λ_=>Wa (λ_=>Wa (λ_=>zT0 (zIU r hr) λz _=>zX _) λ_=>zX _) λ_=>zX _) λ_=>zX _) λ_=>zX _) λ_=>zX _) λ_=>zX _) λ_=>zX _) λ_=>Wa (λ_=>Wa (λ_=>Wa (λ_=>Wa (λ_=>Wa (λ_=>Wa (λ_=>Wa (λ_=>Wa (λ_=>zAh (zBy ..) λx _=>zX _) λ_=>zX _) λ_=>zX _) λ_=>zX _) λ_=>zX _) λ_=>zX _) λ_=>zX _) λ_=>zX _) λ_=>zX _
theorem zVP(hr:NdB r):Wp (zAk k n u b c d i_ x1 x2 x3 x4 r ba) isE:=by
 rw[zHk];have e:=λt=>zYu (k:=k) (n:=n) (u:=u) (b:=b) (c:=c) (d:=d) (i_:=i_) (x1:=x1) (x2:=x2) (x3:=x3) (x4:=x4) (ba:=ba) t hr
 exact zAh (zA1 n) λx _=>Wa (λ_=>zCe (zFI x1 x2 x3 x4) (Wa (λ_=>e _) λ_=>e _)) λ_=>e _
end
theorem zTB(c:Nat):∀s:JV,(cut1 c s).1.length<=s.length/\(cut1 c s).2.1.length<=s.length
 |[]=>⟨QA _,QA _⟩
 |x::r=>by
  have e:=zTB c r;unfold cut1;split
  .exact⟨QS _,QU _⟩
  .revert e
   rcases cut1 c r with⟨a,b,f⟩
   intro e;exact⟨Nat.succ_le_succ e.1,Nat.le_succ_of_le e.2⟩
def zAp(ns:List JV):List (AV×AV):=ns.map λs=>(.str s,.bool true)
theorem zPo(s:JV):∀ns:List JV,zAu false [Kd.s] (.str s) (zAp ns)=if s∈ns then some (some (.bool true))else some none
 |[]=>rfl
 |t::ns=>by
  have h:=zPo s ns;show(match some (zi s t)with
   |some true=>some (some (AV.bool true))
   |some false=>zAu false [Kd.s] (.str s) (zAp ns)
   |none=>none)=_
  rw[zJi];by_cases e:s=t
  .subst e;simp
  .simp only[e,decide_false,QI,false_or];exact h
end Go.Proofs.YtjfcepbllmdfcaaGreatDoor.record
namespace Go.Proofs.YtjfcepbllmdfcaaGreatDoor.record
open Go Go.Sy
variable[MX]
inductive Ln where
 |bad (p:Int)
 |none
 |spec (a:AV)
noncomputable def ln(s:JV):Ln:=match zL6 s 0 with
 |some (.qe [.qd _ [],_])=>.none
 |some (.qe [.qd _ ws,_])=>match zGm ws with
  |some (.qe [a,.agg [.int _ e,.int _ p]])=>if e=0 then .spec a else .bad p
  |_=>.none
 |some (.qe [_,.agg [_,.int _ p]])=>.bad p
 |_=>.none
def dec(n:Nat):JV:=(Lib.decDigits n).map UInt8.toNat
theorem zbD(n:Nat):dec n=if n<10 then[48+n]else dec (n / 10)++[48+n % 10]:=by
 unfold dec;rw[Lib.decDigits];by_cases h:n<10
 .rw[dif_pos h,if_pos h];simp only[QZ,List.map_nil,zL1 h]
 .rw[dif_neg h,if_neg h,Qu];simp only[QZ,List.map_nil,zL1 (Nat.mod_lt n (by decide:0<10))]
def zRB(x:Nat)(l:JV):Nat:=l.foldl (λx c=>10*x+(c-48)) x
theorem zUW:∀(l:JV)(x:Nat),x<=zRB x l
 |[],x=>QA _
 |c::r,x=>by
  have:=zUW r (10*x+(c-48));show x<=zRB (10*x+(c-48)) r
  omega
theorem zPJ(n:Nat):(∀c∈dec n,48<=c/\c<=57)/\(∃d r,dec n=d::r/\(1<=n->d≠48))/\zRB 0 (dec n)=n:=by
 induction n using Nat.strongRecOn with
 |ind n e=>
  rw[zbD];by_cases h:n<10
  .rw[if_pos h];refine⟨λc hc=>?_,⟨_,_,rfl,λ_=>by omega⟩,?_⟩
   .rw[QW.1 hc];omega
   .show 10*0+(48+n-48)=n
    omega
  .rw[if_neg h];obtain⟨h1,⟨d,r,h2,h3⟩,h4⟩:=e (n / 10) (by omega)
   refine⟨λc hc=>?_,⟨d,r++[48+n % 10],by rw[h2];rfl,λ_=>h3 (by omega)⟩,?_⟩
   .rcases QJ.1 hc with hc|hc
    .exact h1 c hc
    .rw[QW.1 hc];omega
   .unfold zRB at h4⊢;rw[List.foldl_append,h4];show 10*(n / 10)+(48+n % 10-48)=n
    omega
theorem zFJ(n:Nat)(h:n<=9223372036854775807):(dec n).length<=21:=by
 have:=Lib.itoa_length_le (n:Int) (by omega) (by omega)
 unfold Lib.itoa at this;rw[if_neg (by omega),Int.toNat_natCast]at this
 unfold dec;rw[QG];exact this
theorem zOH(n:Nat)(h:n<=9223372036854775807):zBJ (n:Int) (ofNat 10)=some (.str (dec n)):=by
 show(match((ofNat 10==10)&&decide (-9223372036854775808<=(n:Int)/\(n:Int)<=9223372036854775807))with|true=>some (AV.str ((Lib.itoa n).map UInt8.toNat))|false=>none)=_
 rw[Ql (⟨by omega,by omega⟩:-9223372036854775808<=(n:Int)/\(n:Int)<=9223372036854775807)]
 unfold Lib.itoa;rw[if_neg (by omega),Int.toNat_natCast]
 rfl
theorem zPK(n:Nat)(h:n<100):zCF (n:Int)=some (.str (dec n)):=by
 show zKk [.int .i64 (n:Int)]=_
 unfold zKk;simp only;split
 .rfl
 .rename_i e;exact absurd e (by simp;omega)
theorem zUm(s:JV)(C:s.length<=65536)(hd:∀c∈s,48<=c/\c<=57)(n:Nat)(D:n<=1099511627776):∀(f i x:Nat),i<=s.length->s.length-i<f->zRB x (s.drop i)=n →
  zDJ f (x:Int) (ofNat (s.map λb=>AV.int .u8 (ofNat b)).length) (ofNat i) (s.map λb=>AV.int .u8 (ofNat b))=some (.qe [.int .i64 (n:Int),.bool true]):=by
 intro f
 induction f with
 |zero=>intro i x _ h;omega
 |succ f l=>
  intro i x hi B hv;refine zDF ?_
  rw[zMp];refine Wc (λe=>?_) λg=>?_
  .have e:i<s.length:=by rw[QG,QB,QB]at e;omega
   obtain⟨c0,A⟩:=hd _ (Qf e);rw[Qt e]at hv;have hv:zRB (10*x+(s[i]-48)) (s.drop (i+1))=n:=hv;have z:=zUW (s.drop (i+1)) (10*x+(s[i]-48));refine zW8 e (zQa (zNL e) (Wc (λh=>?_) λ_=>Wc (λh=>?_) λ_=>?_))
   .rw[QB]at h;omega
   .rw[QB]at h;omega
   .generalize s[i]=c at *;rw[zM6];have e1:wrapx .i64 (10*(x:Int))=((10*x:Nat):Int):=by rw[zAd (by omega) (by omega)];omega
    have e2:wrapx .u8 (ofNat c-48)=((c-48:Nat):Int):=by
     have:ofNat c-48=ofNat (c-48):=by rw[QB,QB];omega
     rw[this];have j:c-48<10:=by omega
     generalize c-48=d at j
     match d,j with
     |0,_|1,_|2,_|3,_|4,_|5,_|6,_|7,_|8,_|9,_=>rfl
    have e3:wrapx .i64 (((c-48:Nat):Int))=((c-48:Nat):Int):=zAd (by omega) (by omega)
    have e4:wrapx .i64 (((10*x:Nat):Int)+((c-48:Nat):Int))=((10*x+(c-48):Nat):Int):=by rw[zAd (by omega) (by omega)];omega
    rw[e1,e2,e3,e4,if_neg (by omega),zo (by omega)]
    exact⟨_,l (i+1) _ e (by omega) hv,rfl⟩
  .have g:s.length<=i:=by rw[QG,QB,QB]at g;omega
   rw[List.drop_eq_nil_of_le g]at hv;have hv:x=n:=hv;subst hv;refine Wb ?_
   rw[Ql (by omega:(x:Int)<=1099511627776)]
theorem zEd(n:Nat)(h1:1<=n)(hm:n<=1099511627776):zV (dec n)=some (.qe [.int .i64 (n:Int),.bool true]):=by
 obtain⟨hd,⟨d,r,g,e⟩,hv⟩:=zPJ n;have hl:=zFJ n (by omega)
 have j:zEn (dec n)=some (.qe [.int .i64 (n:Int),.bool true]):=by
  rw[zM7];exact zUm (dec n) (by omega) hd n hm zp 0 0 (QS _) (zQ (by omega)) hv
 refine zDF ?_
 rw[zP2];refine Wa (λh=>?_) λ_=>?_
 .rw[g]at h;cases h
 .refine Wp.bd (R:=λc=>c=d) ⟨d,by rw[g];rfl,rfl⟩ λc hc=>?_
  subst hc;refine Wa (λh=>?_) λ_=>⟨_,j,rfl⟩
  exfalso
  have:=e h1;have h:(ofNat c==48)=true:=h;rw[beq_iff_eq,QB]at h;omega
section
variable{line:JV}{P:AV->Prop}{f i fr q:Nat}{a b:Int}{ws:List Wd}
noncomputable abbrev CL(line:JV)(f st fr q i:Nat)(a b:Int)(ws:List Wd):JF:=zFO f line 0 (ofNat st) (ofNat fr) (ofNat q) (ofNat line.length) (ofNat i) a b (wds 0 ws)
theorem beqN{x y:Nat}:((ofNat x==ofNat y)=true)↔x=y:=by
 rw[beq_iff_eq];exact Int.ofNat_inj
theorem zQS{x y:Nat}:((ofNat x==ofNat y)=false)↔x≠y:=by
 rw[beq_eq_false_iff_ne];exact not_congr Int.ofNat_inj
theorem zJa(hi:i<line.length){st:Nat}(k:Wp (zDc f line 0 (ofNat st) (ofNat fr) (ofNat q) (ofNat line.length) (ofNat i) (ofNat line[i]) a b (wds 0 ws)) P):Wp (CL line (f+1) st fr q i a b ws) P:=by
 unfold CL;rw[zGb];refine Wc (λ_=>Wc (λ_=>?_) λh=>absurd (Int.ofNat_lt.2 hi) h) λh=>absurd (Qy.2 (Qd hi)) h
 exact Wp.bd (R:=λc=>c=line[i]) ⟨_,zAO hi,rfl⟩ λc hc=>by subst hc;exact k
theorem zOI(hl:line.length<=65536)(hi:i<=line.length){st:Nat}(k:Wp (CL line f st fr q (i+1) a b ws) P):Wp (zA6 f line 0 (ofNat st) (ofNat fr) (ofNat q) (ofNat line.length) (ofNat i) a b (wds 0 ws)) P:=by
 rw[zPZ,zo (by omega)]
 exact k
theorem zXk{c n:Nat}(h:ofNat c<(n:Int)):c<n:=Int.ofNat_lt.1 h
theorem zVQ(hl:line.length<=65536)(hi:i<=line.length){c:Nat}{st:Nat}(h1:33<=c)(h2:c<=126)
  (k:Wp (zGx f line 0 (ofNat st) (ofNat fr) (ofNat q) (ofNat line.length) (ofNat i) (ofNat c) false (ofNat 5) (wrapx .i64 (0+ofNat i)) a b (wds 0 ws)) P) (e:st≠2):
  Wp (zDc f line 0 (ofNat st) (ofNat fr) (ofNat q) (ofNat line.length) (ofNat i) (ofNat c) a b (wds 0 ws)) P:=by
 rw[zEr];refine Wa (λh=>absurd (beqN.1 h) e) λ_=>Wa (λh=>?_) λ_=>Wc (λh=>?_) λ_=>?_
 .have:=(beqN (y:=32)).1 h;omega
 .have:=zXk (n:=33) h;omega
 .rw[Qn (by rw[QB];omega)]
  exact k
theorem zcm(hl:line.length<=65536)(hi:i<line.length)(h1:33<=line[i])(h2:line[i]<=126)(h3:line[i]≠34)(k:Wp (CL line f 1 fr q (i+1) a b ws) P):Wp (CL line (f+1) 1 fr q i a b ws) P:=by
 refine zJa hi (zVQ hl (Qd hi) h1 h2 ?_ (by decide))
 rw[zGE];refine Wa (λh=>by cases h) λ_=>Wa (λh=>absurd ((beqN (y:=0)).1 h) (by decide)) λ_=>Wa (λh=>absurd ((beqN (y:=3)).1 h) (by decide)) λ_=>Wa (λh=>absurd ((beqN (y:=34)).1 h) h3) λ_=>zOI hl (Qd hi) k
theorem zTC(hl:line.length<=65536)(hi:i<line.length)(h1:33<=line[i])(h2:line[i]<=126)(h3:line[i]≠34)(k:Wp (CL line f 1 i q (i+1) a b ws) P):Wp (CL line (f+1) 0 fr q i a b ws) P:=by
 refine zJa hi (zVQ hl (Qd hi) h1 h2 ?_ (by decide))
 rw[zGE];exact Wa (λh=>by cases h) λ_=>Wa (λ_=>Wa (λh=>absurd ((beqN (y:=34)).1 h) h3) λ_=>zOI hl (Qd hi) k) λh=>absurd rfl ((zQS (y:=0)).1 h)
theorem zXl(hl:line.length<=65536)(hi:i<line.length)(h1:32<=line[i])(h2:line[i]<=126)(h3:line[i]≠34)(k:Wp (CL line f 2 fr q (i+1) a b ws) P):Wp (CL line (f+1) 2 fr q i a b ws) P:=by
 refine zJa hi ?_
 rw[zEr];refine Wa (λ_=>Wa (λh=>?_) λ_=>Wa (λh=>absurd ((beqN (y:=34)).1 h) h3) λ_=>Wc (λh=>?_) λ_=>?_) λh=>absurd rfl ((zQS (y:=2)).1 h)
 .have:=beqN.1 h;omega
 .have:=zXk (n:=32) h;omega
 .rw[Qn (by rw[QB];omega),zP0]
  exact Wa (λh=>by cases h) λ_=>zOI hl (Qd hi) k
theorem zYv(hl:line.length<=65536)(hi:i<line.length)(h3:line[i]=34)(k:Wp (CL line f 3 fr q (i+1) a b ws) P):Wp (CL line (f+1) 2 fr q i a b ws) P:=by
 refine zJa hi ?_
 rw[zEr];refine Wa (λ_=>Wa (λh=>?_) λ_=>Wa (λ_=>zOI hl (Qd hi) k) λh=>absurd h3 ((zQS (y:=34)).1 h)) λh=>absurd rfl ((zQS (y:=2)).1 h)
 have:=beqN.1 h;omega
theorem zNR:∀(l:List UInt8)(c:UInt8)(r:List UInt8),c ∉ l->Lib.indexByte (l++c::r) c=(l.length:Int)
 |[],c,r,_=>by simp[Lib.indexByte]
 |x::l,c,r,h=>by
  have g:=zNR l c r λe=>h (.tail _ e)
  have j:(x==c)=false:=by
   rw[beq_eq_false_iff_ne]
   rintro rfl
   exact h (.head _)
  simp only[List.cons_append,Lib.indexByte,j,g];have:((l.length:Int)==-1)=false:=by rw[beq_eq_false_iff_ne];omega
  simp only[this,QR];simp
theorem zNS:∀(l:List UInt8)(c:UInt8),c ∉ l->Lib.indexByte l c=-1
 |[],c,_=>rfl
 |x::l,c,h=>by
  have g:=zNS l c λe=>h (.tail _ e)
  have j:(x==c)=false:=by
   rw[beq_eq_false_iff_ne]
   rintro rfl
   exact h (.head _)
  simp only[Lib.indexByte,j,g];rfl
theorem zcn{x c:Nat}(h1:x<256)(h2:c<256)(h:x≠c):UInt8.ofNat x≠UInt8.ofNat c:=λe=>h (by
 have:=congrArg UInt8.toNat e;rw[UInt8.toNat_ofNat',UInt8.toNat_ofNat']at this;omega)
theorem zQT{l:JV}{c:Nat}(h1:∀x∈l,x<256)(h2:c<256)(h:c ∉ l):UInt8.ofNat c ∉ l.map UInt8.ofNat:=λj=>by
 obtain⟨x,g,e⟩:=QO.1 j;exact zcn (h1 x g) h2 (λe=>h (e▸g)) e
theorem zbE{l:JV}{c:Nat}(h1:∀x∈l,x<256)(h2:c<256)(h:c ∉ l):zA3 l (ofNat c)=some (.int .i64 (-1)):=by
 show some (AV.int .i64 (Lib.indexByte (l.map UInt8.ofNat) (UInt8.ofNat c)))=_
 rw[zNS _ _ (zQT h1 h2 h)]
theorem zbF{l r:JV}{c:Nat}(h1:∀x∈l,x<256)(h2:c<256)(h:c ∉ l):zA3 (l++c::r) (ofNat c)=some (.int .i64 (ofNat l.length)):=by
 show some (AV.int .i64 (Lib.indexByte ((l++c::r).map UInt8.ofNat) (UInt8.ofNat c)))=_
 rw[Qu,QZ,zNR _ _ _ (zQT h1 h2 h),QG];rfl
theorem zax(hl:line.length<=65536)(hi:i<line.length)(h3:line[i]=34){key:JV}(z:(line.take i).drop fr=key++[61])(l:fr<i)(s:∀x∈key,x<256)(j:61 ∉ key)(k:Wp (CL line f 2 fr i (i+1) a b ws) P):Wp (CL line (f+1) 1 fr q i a b ws) P:=by
 have A:key.length+1=i-fr:=by
  have:=congrArg List.length z;rw[Qm,Qh,Nat.min_eq_left (Qd hi),QH]at this
  simpa using this.symm
 have g:line[i-1]?=some 61:=by
  have h0:((line.take i).drop fr)[key.length]?=some 61:=by rw[z];simp
  rw[List.getElem?_drop,List.getElem?_take]at h0;have e:fr+key.length=i-1:=by omega
  rw[e,if_pos (by omega)]at h0
  exact h0
 refine zJa hi (zVQ hl (Qd hi) (by omega) (by omega) ?_ (by decide))
 rw[zGE];refine Wa (λh=>by cases h) λ_=>Wa (λh=>absurd ((beqN (y:=0)).1 h) (by decide)) λ_=>Wa (λh=>absurd ((beqN (y:=3)).1 h) (by decide)) λ_=>Wa (λ_=>?_) λh=>absurd h3 ((zQS (y:=34)).1 h)
 rw[zFH (by omega) (by omega)]
 refine Wp.bd (R:=λc=>c=61) ⟨61,g,rfl⟩ λc hc=>?_
 subst hc;refine Wa (λh=>by cases h) λ_=>We ⟨Qj _,Qy.2 (Qd l),Qy.2 (Qd hi)⟩ ?_
 have e1:List.drop (Int.toNat (ofNat fr)) (List.take (Int.toNat (ofNat i)) line)=key++[61]:=z;rw[e1];refine zCe (zbF s (by decide) j) ?_
 have e2:wrapx .i64 (ofNat (i-1)-ofNat fr)=ofNat key.length:=by
  rw[zAd (by rw[QB,QB];omega) (by rw[QB,QB];omega),QB,QB,QB]
  omega
 rw[e2];refine Wa (λh=>?_) λ_=>zOI hl (Qd hi) k
 simp at h
theorem zbG(hl:line.length<=65536)(hi:i<=line.length)(h3:∀h:i<line.length,line[i]=32){st:Nat}(j:st=1\/st=3)(s:fr<=i)(x:ws.length<=i)(k:Wp (CL line f 0 fr q (i+1) a b (ws++[((line.take i).drop fr,(fr:Int))])) P):Wp (CL line (f+1) st fr q i a b ws) P:=by
 have g:Wp (zDc f line 0 (ofNat st) (ofNat fr) (ofNat q) (ofNat line.length) (ofNat i) (ofNat 32) a b (wds 0 ws)) P:=by
  rw[zEr];refine Wa (λh=>by have:=(beqN (y:=2)).1 h;omega) λ_=>Wa (λ_=>Wa (λ_=>?_) λh=>?_) λh=>by cases h
  .refine We ⟨Qj _,Qy.2 s,Qy.2 hi⟩ (We ?_ ?_)
   .have e:(chunks 2 1 [AV.str (List.drop (Int.toNat (ofNat fr)) (List.take (Int.toNat (ofNat i)) line)),AV.int .i64 (wrapx .i64 (0+ofNat fr))]).length=1:=rfl;rw[e,zLj];unfold ze;omega
   .have e0:wrapx .i64 (0+ofNat fr)=0+ofNat fr:=zAd (by rw[QB];omega) (by rw[QB];omega)
    rw[e0];have e:wds 0 ws++chunks 2 1 (List.drop 0 (qn [AV.str [],AV.int .i64 0] 0 (AV.cells (AV.agg (qn (qn [AV.str [],AV.int .i64 0] 0 (AV.cells (AV.str (List.drop (Int.toNat (ofNat fr)) (List.take (Int.toNat (ofNat i)) line))))) 1 (AV.cells (AV.int .i64 (0+ofNat fr))))))))=wds 0 (ws++[((line.take i).drop fr,(fr:Int))]):=(zaw 0 ws _ _);rw[e];exact zOI hl hi k
  .exfalso
   rcases j with rfl|rfl<;>cases h
 by_cases h:i<line.length
 .refine zJa h ?_
  rw[h3 h];exact g
 .have e:i=line.length:=by omega
  unfold CL;rw[zGb];exact Wc (λ_=>Wc (λl=>absurd (Int.ofNat_lt.1 l) h) λ_=>g) λl=>absurd (Qy.2 hi) l
theorem zay(k:P (.qe [.qd 2 (wds 0 ws),.agg [.int .i64 0,.int .i64 0]])){st:Nat}:Wp (CL line (f+1) st fr q (line.length+1) a b ws) P:=by
 unfold CL;rw[zGb];exact Wc (λh=>absurd (Qy.1 h) (by omega)) λ_=>Wb k
end
end Go.Proofs.YtjfcepbllmdfcaaGreatDoor.record
namespace Go.Proofs.YtjfcepbllmdfcaaGreatDoor.record
open Go Go.Sy
variable[MX]
def okW(c:Nat):Prop:=33<=c/\c<=126/\c≠34/\c≠35
def zXm(w:JV):Prop:=w≠[]/\∀c∈w,okW c
def zco(w:JV):Prop:=∃key r,w=(key++[61])++(34::(r++[34]))/\zXm key/\61 ∉ key/\∀c∈r,zC7 c
def zKn(w:JV):Prop:=zXm w\/zco w
theorem zD8{l r:JV}{i c:Nat}(h:l.drop i=c::r):∃hi:i<l.length,l[i]=c/\l.drop (i+1)=r:=by
 have hi:i<l.length:=by
  rcases Nat.lt_or_ge i l.length with hi|hi
  .exact hi
  .rw[List.drop_eq_nil_of_le hi]at h;cases h
 rw[Qt hi]at h;injection h with h1 h2
 exact⟨hi,h1,h2⟩
section
variable{line:JV}{P:AV->Prop}{a b:Int}
theorem zRp(hl:line.length<=65536){fr q f:Nat}{ws:List Wd}{tail:JV}:∀(w:JV)(i:Nat),(∀c∈w,okW c)->line.drop i=w++tail->Wp (CL line f 1 fr q (i+w.length) a b ws) P->Wp (CL line (f+w.length) 1 fr q i a b ws) P
 |[],i,_,_,k=>k
 |c::w,i,hc,hd,k=>by
  obtain⟨hi,e1,e2⟩:=zD8 hd;obtain⟨h1,h2,h3,_⟩:=hc c (.head _);refine zcm (f:=f+w.length) hl hi (by omega) (by omega) (by omega) (zRp hl w (i+1) (λx g=>hc x (.tail _ g)) e2 ?_)
  have e:i+1+w.length=i+(c::w).length:=by rw[QR];omega
  rw[e];exact k
theorem zPp(hl:line.length<=65536){fr q f:Nat}{ws:List Wd}{tail:JV}:∀(w:JV)(i:Nat),(∀c∈w,zC7 c)->line.drop i=w++tail->Wp (CL line f 2 fr q (i+w.length) a b ws) P->Wp (CL line (f+w.length) 2 fr q i a b ws) P
 |[],i,_,_,k=>k
 |c::w,i,hc,hd,k=>by
  obtain⟨hi,e1,e2⟩:=zD8 hd;obtain⟨h1,h2,h3,_⟩:=hc c (.head _);refine zXl (f:=f+w.length) hl hi (by omega) (by omega) (by omega) (zPp hl w (i+1) (λx g=>hc x (.tail _ g)) e2 ?_)
  have e:i+1+w.length=i+(c::w).length:=by rw[QR];omega
  rw[e];exact k
theorem zL3{l u v:JV}{i:Nat}(h:l.drop i=u++v):l.drop (i+u.length)=v:=by
 rw[←List.drop_drop,h,List.drop_left]
theorem zTD{l u v:JV}{i:Nat}(h:l.drop i=u++v):(l.take (i+u.length)).drop i=u:=by
 rw[List.drop_take,h];have:i+u.length-i=u.length:=by omega
 rw[this,List.take_left]
theorem zTE{l u v:JV}{i:Nat}(e:u≠[])(h:l.drop i=u++v):i+u.length+v.length=l.length:=by
 have:=congrArg List.length h;rw[Qm,QH]at this;have h0:0<u.length:=List.length_pos_iff.2 e;omega
theorem zSb(hl:line.length<=65536){fr q f i:Nat}{ws:List Wd}{w tail:JV}(M:zKn w)(hd:line.drop i=w++tail)(Q:tail=[]\/∃r,tail=32::r)(O:ws.length<=i)
  (k:∀fr' A,Wp (CL line f 0 fr' A (i+w.length+1) a b (ws++[(w,(i:Int))])) P):Wp (CL line (f+w.length+1) 0 fr q i a b ws) P:=by
 have j:w≠[]:=by
  rcases M with h|⟨key,r,rfl,_⟩
  .exact h.1
  .simp
 have s:=zTE j hd;have stop:∀{B:Nat}{A:Nat},B=1\/B=3->Wp (CL line (f+1) B i A (i+w.length) a b ws) P:=λ{B A} F=>by
  refine zbG hl (by omega) (λh=>?_) F (by omega) (by omega) ?_
  .rcases Q with rfl|⟨r,rfl⟩
   .simp at s;omega
   .have e:=zL3 hd;obtain⟨_,e1,_⟩:=zD8 e;exact e1
  .rw[zTD hd];exact k i A
 rcases M with⟨j,hc⟩|⟨key,r,rfl,⟨J,H⟩,E,hr⟩
 .cases w with
  |nil=>exact absurd rfl j
  |cons c w=>
   obtain⟨hi,e1,e2⟩:=zD8 hd;obtain⟨h1,h2,h3,_⟩:=hc c (.head _);have e:f+(c::w).length+1=(f+1+w.length)+1:=by rw[QR];omega
   rw[e];refine zTC hl hi (by omega) (by omega) (by omega) (zRp hl w (i+1) (λx g=>hc x (.tail _ g)) e2 ?_)
   have T:i+1+w.length=i+(c::w).length:=by rw[QR];omega
   rw[T];exact stop (.inl rfl)
 .cases key with
  |nil=>exact absurd rfl J
  |cons c key=>
   have uC:line.drop i=c::((key++[61])++(34::(r++[34])++tail)):=by rw[hd];simp
   obtain⟨hi,e1,e2⟩:=zD8 uC;obtain⟨h1,h2,h3,_⟩:=H c (.head _);have K:((c::key)++[61]++(34::(r++[34]))).length=key.length+r.length+4:=by simp only[QH,QR,Qo];omega
   have e:f+((c::key)++[61]++(34::(r++[34]))).length+1=((((f+1)+1)+r.length)+1+(key++[61]).length)+1:=by rw[K,QH];simp;omega
   rw[e];refine zTC hl hi (by omega) (by omega) (by omega) (zRp hl (key++[61]) (i+1) (λx g=>?_) e2 ?_)
   .rcases QJ.1 g with g|g
    .exact H x (.tail _ g)
    .rw[QW.1 g];exact⟨by decide,by decide,by decide,by decide⟩
   have z:=zL3 e2;have S:i+1+(key++[61]).length=i+((c::key)++[61]).length:=by simp;omega
   rw[S]at z⊢;obtain⟨D,f1,f2⟩:=zD8 z;have C:line.drop i=((c::key)++[61])++(34::(r++[34])++tail):=by rw[hd];simp
   refine zax hl D f1 (key:=c::key) (zTD C) (by simp) (λx g=>by have:=(H x g).2.1;omega) E ?_
   have l:line.drop (i+((c::key)++[61]).length+1)=r++(34::tail):=by rw[f2];simp
   refine zPp hl r _ hr l ?_
   obtain⟨I,g1,g2⟩:=zD8 (zL3 l);refine zYv hl I g1 ?_
   have e5:i+((c::key)++[61]).length+1+r.length+1=i+((c::key)++[61]++(34::(r++[34]))).length:=by rw[K];simp;omega
   rw[e5];exact stop (.inr rfl)
theorem zIV(w:JV)(r:List JV):zAn [32] (w::r)=w++(r.map ([32]++·)).flatten:=rfl
theorem zL4(hl:line.length<=65536):∀(W:List JV)(i f fr q:Nat)(ws:List Wd),W≠[]->(∀w∈W,zKn w)->line.drop i=zAn [32] W->ws.length<=i →
  ∃us:List Wd,us.map Prod.fst=W/\Wp (CL line (f+(zAn [32] W).length+2) 0 fr q i a b ws) λv=>v=.qe [.qd 2 (wds 0 (ws++us)),.agg [.int .i64 0,.int .i64 0]]
 |[],_,_,_,_,_,h,_,_,_=>absurd rfl h
 |[w],i,f,fr,q,ws,_,C,hd,s=>by
  have hd:line.drop i=w++[]:=hd;have D:=C w (.head _);have l:w≠[]:=by
   rcases D with h|⟨key,r,rfl,_⟩
   .exact h.1
   .simp
  have j:=zTE l hd;simp only[Qo,Nat.add_zero]at j;refine⟨[(w,(i:Int))],rfl,?_⟩
  have e:f+(zAn [32] [w]).length+2=(f+1)+w.length+1:=by rw[zIV];simp;omega
  rw[e];refine zSb hl D hd (.inl rfl) s λg A=>?_
  rw[j];exact zay (P:=λv=>v=AV.qe [AV.qd 2 (wds 0 (ws++[(w,(i:Int))])),AV.agg [AV.int .i64 0,AV.int .i64 0]]) rfl
 |w::x::r,i,f,fr,q,ws,_,C,hd,s=>by
  have I:zAn [32] (w::x::r)=w++(32::zAn [32] (x::r)):=by simp[zIV]
  rw[I]at hd;have D:=C w (.head _);have B:=(zD8 (zL3 hd)).2.2;have l:w≠[]:=by
   rcases D with h|⟨key,r,rfl,_⟩
   .exact h.1
   .simp
  have j:=zTE l hd;have h0:0<w.length:=List.length_pos_iff.2 l;obtain⟨us,h1,_⟩:=zL4 hl (x::r) (i+w.length+1) f 0 0 (ws++[(w,(i:Int))]) (by simp) (λy F=>C y (.tail _ F)) B (by rw[QH];simp;omega)
  have all:∀g A,∃us:List Wd,us.map Prod.fst=x::r/\Wp (CL line (f+(zAn [32] (x::r)).length+2) 0 g A (i+w.length+1) a b (ws++[(w,(i:Int))])) λv=>v=.qe [.qd 2 (wds 0 ((ws++[(w,(i:Int))])++us)),.agg [.int .i64 0,.int .i64 0]]:=λg A=>
   zL4 hl (x::r) (i+w.length+1) f g A (ws++[(w,(i:Int))]) (by simp) (λy F=>C y (.tail _ F)) B (by rw[QH];simp;omega)
  have e:f+(zAn [32] (w::x::r)).length+2=(f+(zAn [32] (x::r)).length+2)+w.length+1:=by rw[I,QH,QR];omega
  rw[e];have key:∃us:List Wd,us.map Prod.fst=w::x::r/\Wp (CL line (f+(zAn [32] (x::r)).length+2+w.length+1) 0 fr q i a b ws) λv=>∃us:List Wd,us.map Prod.fst=w::x::r/\v=.qe [.qd 2 (wds 0 (ws++us)),.agg [.int .i64 0,.int .i64 0]]:=by
   refine⟨(w,(i:Int))::us,by rw[QZ,h1],zSb hl D hd (.inr ⟨_,rfl⟩) s λg A=>?_⟩
   obtain⟨z,E,H⟩:=all g A;exact H.mono λv hv=>⟨(w,(i:Int))::z,by rw[QZ,E],by rw[hv,QK];rfl⟩
  obtain⟨_,_,v,hv,z,E,H⟩:=key;exact⟨z,E,v,hv,H⟩
end
theorem zXn{c:Nat}:∀{W:List JV},c∈zAn [32] W->c=32\/∃w∈W,c∈w
 |[],h=>by cases h
 |w::r,h=>by
  rw[zIV]at h;rcases QJ.1 h with h|h
  .exact .inr ⟨w,.head _,h⟩
  .obtain⟨y,e,hc⟩:=List.mem_flatten.1 h;obtain⟨x,g,rfl⟩:=QO.1 e;rcases QI.1 hc with h|h
   .exact .inl h
   .exact .inr ⟨x,.tail _ g,h⟩
def okT(c:Nat):Prop:=32<=c/\c<=126/\c≠35
theorem zaz{w:JV}(e:zKn w):∀c∈w,okT c:=λc hc=>by
 rcases e with⟨_,h⟩|⟨key,r,rfl,⟨_,g⟩,_,hr⟩
 .obtain⟨h1,h2,h3,h4⟩:=h c hc;exact⟨by omega,h2,h4⟩
 .rcases QJ.1 hc with hc|hc
  .rcases QJ.1 hc with hc|hc
   .obtain⟨h1,h2,h3,h4⟩:=g c hc;exact⟨by omega,h2,h4⟩
   .rw[QW.1 hc];exact⟨by decide,by decide,by decide⟩
  .rcases QI.1 hc with rfl|hc
   .exact⟨by decide,by decide,by decide⟩
   .rcases QJ.1 hc with hc|hc
    .obtain⟨h1,h2,h3,h4⟩:=hr c hc;exact⟨h1,h2,h4⟩
    .rw[QW.1 hc];exact⟨by decide,by decide,by decide⟩
theorem zUX{W:List JV}(h:∀w∈W,zKn w):∀c∈zAn [32] W,okT c:=λc hc=>by
 rcases zXn hc with rfl|⟨w,e,hc⟩
 .exact⟨by decide,by decide,by decide⟩
 .exact zaz (h w e) c hc
theorem zXo{W:List JV}(g:W≠[])(h:∀w∈W,zKn w)(hl:(zAn [32] W).length<=65536):∃us:List Wd,us.map Prod.fst=W/\zL6 (zAn [32] W) 0=some (.qe [.qd 2 (wds 0 us),.agg [.int .i64 0,.int .i64 0]]):=by
 have e:=zUX h;have j:zIb (zAn [32] W)=some (.int .i64 (-1)):=by
  refine zDF ?_
  rw[zPY];refine zCe (zbE (λx z=>?_) (by decide) λl=>(e 35 l).2.2 rfl) (Wb rfl)
  have:=(e x z).2.1;omega
 have s:zp=(zp-((zAn [32] W).length+2))+(zAn [32] W).length+2:=by
  have:=zQ (n:=(zAn [32] W).length+2) (by omega)
  omega
 obtain⟨us,h1,v,hv,rfl⟩:=zL4 (a:=0) (b:=0) hl W 0 (zp-((zAn [32] W).length+2)) 0 0 [] g h rfl (QA _);rw[←s]at hv;refine⟨us,h1,zDF ?_⟩
 rw[zSm];refine zCe j (Wc (λh=>by omega) λ_=>?_)
 rw[zP1];exact⟨_,hv,rfl⟩
end Go.Proofs.YtjfcepbllmdfcaaGreatDoor.record
namespace Go.Proofs.YtjfcepbllmdfcaaGreatDoor.record
open Go Go.Sy
variable[MX]
theorem zUY(c:Nat)(v:JV):∀key:JV,c ∉ key->cut1 c (key++(c::v))=(key,v,true)
 |[],_=>by
  show cut1 c (c::v)=_
  unfold cut1;rw[zW7]
 |x::r,h=>by
  have j:=zUY c v r λg=>h (.tail _ g)
  show cut1 c (x::(r++(c::v)))=_
  unfold cut1;have:Nat.beq x c=false:=by
   cases e:Nat.beq x c with
   |false=>rfl
   |true=>exact absurd (.head _) (zb e▸h)
  rw[this,j]
theorem zXp{key v:JV}(h:61 ∉ key)(hl:(key++(61::v)).length<=65536):zGw (key++(61::v)) [61]=some (.qe [.str key,.str v,.bool true]):=by
 show zTZ [.str (key++(61::v)),.str [61]]=_
 unfold zTZ;simp only;have h1:Nat.blt (key++(61::v)).length 4294967281=true:=by rw[Qg];omega
 have h2:Nat.blt 61 256=true:=rfl;rw[h1,h2,zUY 61 v key h];rfl
theorem zBj{key v:JV}(h:61 ∉ key)(hl:(key++(61::v)).length<=65536)(hv:∀c∈v,c≠34):z8 (key++(61::v))=some (.qe [.str key,.str v,.bool true]):=by
 refine zDF ?_
 rw[zKF];refine zBo (zXp h hl) ?_
 have e:Wp (zDl key v true false) λx=>x=.qe [.str key,.str v,.bool true]:=by
  rw[zH5];refine Wa (λh=>by cases h) λ_=>?_
  rw[zH4];exact Wb rfl
 refine Wc (λh2=>?_) λ_=>e
 cases v with
 |nil=>exact absurd h2 (by decide)
 |cons c r=>
  refine Wp.bd (R:=λx=>x=c) ⟨c,rfl,rfl⟩ λx g=>?_
  subst g;exact Wa (λh=>absurd ((beqN (y:=34)).1 h) (hv x (.head _))) λ_=>e
theorem zVR{key r:JV}(h:61 ∉ key)(hl:(key++(61::(34::(r++[34])))).length<=65536):z8 (key++(61::(34::(r++[34]))))=some (.qe [.str key,.str r,.bool true]):=by
 refine zDF ?_
 rw[zKF];refine zBo (zXp h hl) ?_
 have g:(34::(r++[34])).length=r.length+2:=by simp
 have hr:r.length<=65536:=by
  have:r.length<=(key++(61::(34::(r++[34])))).length:=by simp;omega
  omega
 refine Wc (λ_=>?_) λh=>absurd (show(2:Int)<=ofNat (34::(r++[34])).length by rw[g,QB];omega) h
 refine Wp.bd (R:=λx=>x=34) ⟨34,rfl,rfl⟩ λx j=>?_
 subst j;refine Wa (λ_=>?_) λh=>by cases h
 have e1:wrapx .i64 (ofNat (34::(r++[34])).length-1)=ofNat (r.length+1):=by
  rw[zFH (by rw[g];omega) (by rw[g];omega),g];rfl
 rw[e1];refine Wp.bd (R:=λx=>x=34) ⟨34,?_,rfl⟩ λx j=>?_
 .show(34::(r++[34]))[r.length+1]? = _
  simp
 .subst j;rw[zH5];refine Wa (λ_=>?_) λh=>by cases h
  rw[e1];refine We ⟨by decide,by rw[QB];omega,by rw[g,QB,QB];omega⟩ ?_
  rw[zH4];have e:List.drop (Int.toNat 1) (List.take (Int.toNat (ofNat (r.length+1))) (34::(r++[34])))=r:=by
   show List.drop 1 (List.take (r.length+1) (34::(r++[34])))=r
   simp
  rw[e];exact Wb rfl
theorem zCl(s:JV):∀ns:List JV,s ∉ ns->zBX false [Kd.s] (.str s) (.bool true) (zAp ns)=some (zAp (ns++[s]))
 |[],_=>rfl
 |t::r,h=>by
  have j:=zCl s r λx=>h (.tail _ x)
  have g:zi s t=false:=by
   cases e:zi s t with
   |false=>rfl
   |true=>exact absurd (.head _) (zP e▸h)
  have l:zi t s=false:=by
   cases e:zi t s with
   |false=>rfl
   |true=>exact absurd (.head _) (zP e▸h)
  unfold zAp at j⊢;have e:eqb Kd.s (.str s) (.str t)=some (zi s t):=rfl;simp only[QZ,List.cons_append,zBX,eqk,e,g,j]
theorem zDQ(s:JV)(ns:List JV)(h:s ∉ ns):lkR false (AV.bool false) (zAu false [Kd.s] (.str s) (zAp ns))=some (.bool false):=by
 rw[zPo,if_neg h];rfl
section
variable{l0 us:JE}{N:Int}{f i:Nat}{k b c d x1 x2 x3 x4 ba:Int}{n u i_ v w:JV}{r:JE}{e0 e3 e4 e5 e7 e8 e9 e10 e12 g0 g1 p:Int}{e1 e2 e6:JV}{ns:List JV}{P:AV->Prop}
theorem zYw{y:JV}(e:ofNat i<N)(s:i<1000000)(hi:ixN us (ofNat i)=some (.agg [.str ([117,115,101,114]++(61::w)),.int .i64 p]))(hv:z8 ([117,115,101,114]++(61::w))=some (.qe [.str [117,115,101,114],.str v,.bool true]))(g:[117,115,101,114] ∉ ns)(l:zc k [117,115,101,114]=some (.bool true))
  (hr:zDm k n u b c d i_ x1 x2 x3 x4 r ba v=some (.bool true,[(0,.cells false [.int .i64 k,.str n,.str y,.int .i64 b,.int .i64 c,.int .i64 d,.str i_,.int .i64 x1,.int .i64 x2,.int .i64 x3,.int .i64 x4,.qd 6 r,.int .i64 ba,.str v])],[]))
  (q:Wp (zg f l0 us N (ofNat (i+1)) k n y b c d i_ x1 x2 x3 x4 r ba v e0 e1 e2 e3 e4 e5 e6 e7 e8 e9 e10 e12 g0 g1 (zAp (ns++[[117,115,101,114]]))) P) {v0:JV}:Wp (zg (f+1) l0 us N (ofNat i) k n u b c d i_ x1 x2 x3 x4 r ba v0 e0 e1 e2 e3 e4 e5 e6 e7 e8 e9 e10 e12 g0 g1 (zAp ns)) P:=by
 rw[zR];refine Wc (λ_=>zBc hi (zBo hv (zFn zAl ?_))) λh=>absurd e h
 refine Wa (λ_=>?_) λh=>absurd h (by decide)
 refine Wa (λh=>by cases h) λ_=>qk_b (zDQ _ ns g) (Wa (λh=>by cases h) λ_=>qk_b l ?_)
 rw[zOW];refine Wa (λh=>by cases h) λ_=>?_
 rw[zOV,zCl _ ns g];refine Wp.bd (R:=λm=>m=zAp (ns++[[117,115,101,114]])) ⟨_,rfl,rfl⟩ λm j=>?_
 subst j;refine zL hr (Wa (λh=>by cases h) λ_=>?_)
 rw[zo (by omega)]
 exact q
theorem zYx{y:Int}(e:ofNat i<N)(s:i<1000000)(hi:ixN us (ofNat i)=some (.agg [.str ([98,97,110,100]++(61::w)),.int .i64 p]))(hv:z8 ([98,97,110,100]++(61::w))=some (.qe [.str [98,97,110,100],.str v,.bool true]))(g:[98,97,110,100] ∉ ns)(l:zc k [98,97,110,100]=some (.bool true))
  (hr:zDn k n u b c d i_ x1 x2 x3 x4 r ba v=some (.bool true,[(0,.cells false [.int .i64 k,.str n,.str u,.int .i64 y,.int .i64 c,.int .i64 d,.str i_,.int .i64 x1,.int .i64 x2,.int .i64 x3,.int .i64 x4,.qd 6 r,.int .i64 ba,.str v])],[]))
  (q:Wp (zg f l0 us N (ofNat (i+1)) k n u y c d i_ x1 x2 x3 x4 r ba v e0 e1 e2 e3 e4 e5 e6 e7 e8 e9 e10 e12 g0 g1 (zAp (ns++[[98,97,110,100]]))) P) {v0:JV}:Wp (zg (f+1) l0 us N (ofNat i) k n u b c d i_ x1 x2 x3 x4 r ba v0 e0 e1 e2 e3 e4 e5 e6 e7 e8 e9 e10 e12 g0 g1 (zAp ns)) P:=by
 rw[zR];refine Wc (λ_=>zBc hi (zBo hv (zFn zAl ?_))) λh=>absurd e h
 refine Wa (λh=>absurd h (by decide)) λ_=>?_
 refine Wa (λ_=>?_) λh=>absurd h (by decide)
 refine Wa (λh=>by cases h) λ_=>qk_b (zDQ _ ns g) (Wa (λh=>by cases h) λ_=>qk_b l ?_)
 rw[zOY];refine Wa (λh=>by cases h) λ_=>?_
 rw[zOX,zCl _ ns g];refine Wp.bd (R:=λm=>m=zAp (ns++[[98,97,110,100]])) ⟨_,rfl,rfl⟩ λm j=>?_
 subst j;refine zL hr (Wa (λh=>by cases h) λ_=>?_)
 rw[zo (by omega)]
 exact q
theorem zXq{y:Int}(e:ofNat i<N)(s:i<1000000)(hi:ixN us (ofNat i)=some (.agg [.str ([99,111,117,110,116]++(61::w)),.int .i64 p]))(hv:z8 ([99,111,117,110,116]++(61::w))=some (.qe [.str [99,111,117,110,116],.str v,.bool true]))(g:[99,111,117,110,116] ∉ ns)(l:zc k [99,111,117,110,116]=some (.bool true))
  (hr:zCY k n u b c d i_ x1 x2 x3 x4 r ba v=some (.bool true,[(0,.cells false [.int .i64 k,.str n,.str u,.int .i64 b,.int .i64 y,.int .i64 d,.str i_,.int .i64 x1,.int .i64 x2,.int .i64 x3,.int .i64 x4,.qd 6 r,.int .i64 ba,.str v])],[]))
  (q:Wp (zg f l0 us N (ofNat (i+1)) k n u b y d i_ x1 x2 x3 x4 r ba v e0 e1 e2 e3 e4 e5 e6 e7 e8 e9 e10 e12 g0 g1 (zAp (ns++[[99,111,117,110,116]]))) P) {v0:JV}:Wp (zg (f+1) l0 us N (ofNat i) k n u b c d i_ x1 x2 x3 x4 r ba v0 e0 e1 e2 e3 e4 e5 e6 e7 e8 e9 e10 e12 g0 g1 (zAp ns)) P:=by
 rw[zR];refine Wc (λ_=>zBc hi (zBo hv (zFn zAl ?_))) λh=>absurd e h
 refine Wa (λh=>absurd h (by decide)) λ_=>?_
 refine Wa (λh=>absurd h (by decide)) λ_=>?_
 refine Wa (λ_=>?_) λh=>absurd h (by decide)
 refine Wa (λh=>by cases h) λ_=>qk_b (zDQ _ ns g) (Wa (λh=>by cases h) λ_=>qk_b l ?_)
 rw[zO0];refine Wa (λh=>by cases h) λ_=>?_
 rw[zOZ,zCl _ ns g];refine Wp.bd (R:=λm=>m=zAp (ns++[[99,111,117,110,116]])) ⟨_,rfl,rfl⟩ λm j=>?_
 subst j;refine zL hr (Wa (λh=>by cases h) λ_=>?_)
 rw[zo (by omega)]
 exact q
theorem zYy{y:Int}(e:ofNat i<N)(s:i<1000000)(hi:ixN us (ofNat i)=some (.agg [.str ([100,111,119,110]++(61::w)),.int .i64 p]))(hv:z8 ([100,111,119,110]++(61::w))=some (.qe [.str [100,111,119,110],.str v,.bool true]))(g:[100,111,119,110] ∉ ns)(l:zc k [100,111,119,110]=some (.bool true))
  (hr:zDo k n u b c d i_ x1 x2 x3 x4 r ba v=some (.bool true,[(0,.cells false [.int .i64 k,.str n,.str u,.int .i64 b,.int .i64 c,.int .i64 y,.str i_,.int .i64 x1,.int .i64 x2,.int .i64 x3,.int .i64 x4,.qd 6 r,.int .i64 ba,.str v])],[]))
  (q:Wp (zg f l0 us N (ofNat (i+1)) k n u b c y i_ x1 x2 x3 x4 r ba v e0 e1 e2 e3 e4 e5 e6 e7 e8 e9 e10 e12 g0 g1 (zAp (ns++[[100,111,119,110]]))) P) {v0:JV}:Wp (zg (f+1) l0 us N (ofNat i) k n u b c d i_ x1 x2 x3 x4 r ba v0 e0 e1 e2 e3 e4 e5 e6 e7 e8 e9 e10 e12 g0 g1 (zAp ns)) P:=by
 rw[zR];refine Wc (λ_=>zBc hi (zBo hv (zFn zAl ?_))) λh=>absurd e h
 refine Wa (λh=>absurd h (by decide)) λ_=>?_
 refine Wa (λh=>absurd h (by decide)) λ_=>?_
 refine Wa (λh=>absurd h (by decide)) λ_=>?_
 refine Wa (λ_=>?_) λh=>absurd h (by decide)
 refine Wa (λh=>by cases h) λ_=>qk_b (zDQ _ ns g) (Wa (λh=>by cases h) λ_=>qk_b l ?_)
 rw[zO2];refine Wa (λh=>by cases h) λ_=>?_
 rw[zO1,zCl _ ns g];refine Wp.bd (R:=λm=>m=zAp (ns++[[100,111,119,110]])) ⟨_,rfl,rfl⟩ λm j=>?_
 subst j;refine zL hr (Wa (λh=>by cases h) λ_=>?_)
 rw[zo (by omega)]
 exact q
theorem zbH{y:JV}(e:ofNat i<N)(s:i<1000000)(hi:ixN us (ofNat i)=some (.agg [.str ([105,110]++(61::w)),.int .i64 p]))(hv:z8 ([105,110]++(61::w))=some (.qe [.str [105,110],.str v,.bool true]))(g:[105,110] ∉ ns)(l:zc k [105,110]=some (.bool true))
  (hr:zEo k n u b c d i_ x1 x2 x3 x4 r ba v=some (.bool true,[(0,.cells false [.int .i64 k,.str n,.str u,.int .i64 b,.int .i64 c,.int .i64 d,.str y,.int .i64 x1,.int .i64 x2,.int .i64 x3,.int .i64 x4,.qd 6 r,.int .i64 ba,.str v])],[]))
  (q:Wp (zg f l0 us N (ofNat (i+1)) k n u b c d y x1 x2 x3 x4 r ba v e0 e1 e2 e3 e4 e5 e6 e7 e8 e9 e10 e12 g0 g1 (zAp (ns++[[105,110]]))) P) {v0:JV}:Wp (zg (f+1) l0 us N (ofNat i) k n u b c d i_ x1 x2 x3 x4 r ba v0 e0 e1 e2 e3 e4 e5 e6 e7 e8 e9 e10 e12 g0 g1 (zAp ns)) P:=by
 rw[zR];refine Wc (λ_=>zBc hi (zBo hv (zFn zAl ?_))) λh=>absurd e h
 refine Wa (λh=>absurd h (by decide)) λ_=>?_
 refine Wa (λh=>absurd h (by decide)) λ_=>?_
 refine Wa (λh=>absurd h (by decide)) λ_=>?_
 refine Wa (λh=>absurd h (by decide)) λ_=>?_
 refine Wa (λ_=>?_) λh=>absurd h (by decide)
 refine Wa (λh=>by cases h) λ_=>qk_b (zDQ _ ns g) (Wa (λh=>by cases h) λ_=>qk_b l ?_)
 rw[zN7];refine Wa (λh=>by cases h) λ_=>?_
 rw[zN6,zCl _ ns g];refine Wp.bd (R:=λm=>m=zAp (ns++[[105,110]])) ⟨_,rfl,rfl⟩ λm j=>?_
 subst j;refine zL hr (Wa (λh=>by cases h) λ_=>?_)
 rw[zo (by omega)]
 exact q
theorem zaA{y:Int}(e:ofNat i<N)(s:i<1000000)(hi:ixN us (ofNat i)=some (.agg [.str ([99,112,117]++(61::w)),.int .i64 p]))(hv:z8 ([99,112,117]++(61::w))=some (.qe [.str [99,112,117],.str v,.bool true]))(g:[99,112,117] ∉ ns)(l:zc k [99,112,117]=some (.bool true))
  (hr:zDK k n u b c d i_ x1 x2 x3 x4 r ba v=some (.bool true,[(0,.cells false [.int .i64 k,.str n,.str u,.int .i64 b,.int .i64 c,.int .i64 d,.str i_,.int .i64 y,.int .i64 x2,.int .i64 x3,.int .i64 x4,.qd 6 r,.int .i64 ba,.str v])],[]))
  (q:Wp (zg f l0 us N (ofNat (i+1)) k n u b c d i_ y x2 x3 x4 r ba v e0 e1 e2 e3 e4 e5 e6 e7 e8 e9 e10 e12 g0 g1 (zAp (ns++[[99,112,117]]))) P) {v0:JV}:Wp (zg (f+1) l0 us N (ofNat i) k n u b c d i_ x1 x2 x3 x4 r ba v0 e0 e1 e2 e3 e4 e5 e6 e7 e8 e9 e10 e12 g0 g1 (zAp ns)) P:=by
 rw[zR];refine Wc (λ_=>zBc hi (zBo hv (zFn zAl ?_))) λh=>absurd e h
 refine Wa (λh=>absurd h (by decide)) λ_=>?_
 refine Wa (λh=>absurd h (by decide)) λ_=>?_
 refine Wa (λh=>absurd h (by decide)) λ_=>?_
 refine Wa (λh=>absurd h (by decide)) λ_=>?_
 refine Wa (λh=>absurd h (by decide)) λ_=>?_
 refine Wa (λ_=>?_) λh=>absurd h (by decide)
 refine Wa (λh=>by cases h) λ_=>qk_b (zDQ _ ns g) (Wa (λh=>by cases h) λ_=>qk_b l ?_)
 rw[zN9];refine Wa (λh=>by cases h) λ_=>?_
 rw[zN8,zCl _ ns g];refine Wp.bd (R:=λm=>m=zAp (ns++[[99,112,117]])) ⟨_,rfl,rfl⟩ λm j=>?_
 subst j;refine zL hr (Wa (λh=>by cases h) λ_=>?_)
 rw[zo (by omega)]
 exact q
theorem zaB{y:Int}(e:ofNat i<N)(s:i<1000000)(hi:ixN us (ofNat i)=some (.agg [.str ([114,97,109]++(61::w)),.int .i64 p]))(hv:z8 ([114,97,109]++(61::w))=some (.qe [.str [114,97,109],.str v,.bool true]))(g:[114,97,109] ∉ ns)(l:zc k [114,97,109]=some (.bool true))
  (hr:zDL k n u b c d i_ x1 x2 x3 x4 r ba v=some (.bool true,[(0,.cells false [.int .i64 k,.str n,.str u,.int .i64 b,.int .i64 c,.int .i64 d,.str i_,.int .i64 x1,.int .i64 y,.int .i64 x3,.int .i64 x4,.qd 6 r,.int .i64 ba,.str v])],[]))
  (q:Wp (zg f l0 us N (ofNat (i+1)) k n u b c d i_ x1 y x3 x4 r ba v e0 e1 e2 e3 e4 e5 e6 e7 e8 e9 e10 e12 g0 g1 (zAp (ns++[[114,97,109]]))) P) {v0:JV}:Wp (zg (f+1) l0 us N (ofNat i) k n u b c d i_ x1 x2 x3 x4 r ba v0 e0 e1 e2 e3 e4 e5 e6 e7 e8 e9 e10 e12 g0 g1 (zAp ns)) P:=by
 rw[zR];refine Wc (λ_=>zBc hi (zBo hv (zFn zAl ?_))) λh=>absurd e h
 refine Wa (λh=>absurd h (by decide)) λ_=>?_
 refine Wa (λh=>absurd h (by decide)) λ_=>?_
 refine Wa (λh=>absurd h (by decide)) λ_=>?_
 refine Wa (λh=>absurd h (by decide)) λ_=>?_
 refine Wa (λh=>absurd h (by decide)) λ_=>?_
 refine Wa (λh=>absurd h (by decide)) λ_=>?_
 refine Wa (λ_=>?_) λh=>absurd h (by decide)
 refine Wa (λh=>by cases h) λ_=>qk_b (zDQ _ ns g) (Wa (λh=>by cases h) λ_=>qk_b l ?_)
 rw[zOb];refine Wa (λh=>by cases h) λ_=>?_
 rw[zOa,zCl _ ns g];refine Wp.bd (R:=λm=>m=zAp (ns++[[114,97,109]])) ⟨_,rfl,rfl⟩ λm j=>?_
 subst j;refine zL hr (Wa (λh=>by cases h) λ_=>?_)
 rw[zo (by omega)]
 exact q
theorem zYz{y:Int}(e:ofNat i<N)(s:i<1000000)(hi:ixN us (ofNat i)=some (.agg [.str ([100,105,115,107]++(61::w)),.int .i64 p]))(hv:z8 ([100,105,115,107]++(61::w))=some (.qe [.str [100,105,115,107],.str v,.bool true]))(g:[100,105,115,107] ∉ ns)(l:zc k [100,105,115,107]=some (.bool true))
  (hr:zDp k n u b c d i_ x1 x2 x3 x4 r ba v=some (.bool true,[(0,.cells false [.int .i64 k,.str n,.str u,.int .i64 b,.int .i64 c,.int .i64 d,.str i_,.int .i64 x1,.int .i64 x2,.int .i64 y,.int .i64 x4,.qd 6 r,.int .i64 ba,.str v])],[]))
  (q:Wp (zg f l0 us N (ofNat (i+1)) k n u b c d i_ x1 x2 y x4 r ba v e0 e1 e2 e3 e4 e5 e6 e7 e8 e9 e10 e12 g0 g1 (zAp (ns++[[100,105,115,107]]))) P) {v0:JV}:Wp (zg (f+1) l0 us N (ofNat i) k n u b c d i_ x1 x2 x3 x4 r ba v0 e0 e1 e2 e3 e4 e5 e6 e7 e8 e9 e10 e12 g0 g1 (zAp ns)) P:=by
 rw[zR];refine Wc (λ_=>zBc hi (zBo hv (zFn zAl ?_))) λh=>absurd e h
 refine Wa (λh=>absurd h (by decide)) λ_=>?_
 refine Wa (λh=>absurd h (by decide)) λ_=>?_
 refine Wa (λh=>absurd h (by decide)) λ_=>?_
 refine Wa (λh=>absurd h (by decide)) λ_=>?_
 refine Wa (λh=>absurd h (by decide)) λ_=>?_
 refine Wa (λh=>absurd h (by decide)) λ_=>?_
 refine Wa (λh=>absurd h (by decide)) λ_=>?_
 refine Wa (λ_=>?_) λh=>absurd h (by decide)
 refine Wa (λh=>by cases h) λ_=>qk_b (zDQ _ ns g) (Wa (λh=>by cases h) λ_=>qk_b l ?_)
 rw[zOd];refine Wa (λh=>by cases h) λ_=>?_
 rw[zOc,zCl _ ns g];refine Wp.bd (R:=λm=>m=zAp (ns++[[100,105,115,107]])) ⟨_,rfl,rfl⟩ λm j=>?_
 subst j;refine zL hr (Wa (λh=>by cases h) λ_=>?_)
 rw[zo (by omega)]
 exact q
theorem zXr{y:Int}(e:ofNat i<N)(s:i<1000000)(hi:ixN us (ofNat i)=some (.agg [.str ([112,111,114,116,115]++(61::w)),.int .i64 p]))(hv:z8 ([112,111,114,116,115]++(61::w))=some (.qe [.str [112,111,114,116,115],.str v,.bool true]))(g:[112,111,114,116,115] ∉ ns)(l:zc k [112,111,114,116,115]=some (.bool true))
  (hr:zCZ k n u b c d i_ x1 x2 x3 x4 r ba v=some (.bool true,[(0,.cells false [.int .i64 k,.str n,.str u,.int .i64 b,.int .i64 c,.int .i64 d,.str i_,.int .i64 x1,.int .i64 x2,.int .i64 x3,.int .i64 y,.qd 6 r,.int .i64 ba,.str v])],[]))
  (q:Wp (zg f l0 us N (ofNat (i+1)) k n u b c d i_ x1 x2 x3 y r ba v e0 e1 e2 e3 e4 e5 e6 e7 e8 e9 e10 e12 g0 g1 (zAp (ns++[[112,111,114,116,115]]))) P) {v0:JV}:Wp (zg (f+1) l0 us N (ofNat i) k n u b c d i_ x1 x2 x3 x4 r ba v0 e0 e1 e2 e3 e4 e5 e6 e7 e8 e9 e10 e12 g0 g1 (zAp ns)) P:=by
 rw[zR];refine Wc (λ_=>zBc hi (zBo hv (zFn zAl ?_))) λh=>absurd e h
 refine Wa (λh=>absurd h (by decide)) λ_=>?_
 refine Wa (λh=>absurd h (by decide)) λ_=>?_
 refine Wa (λh=>absurd h (by decide)) λ_=>?_
 refine Wa (λh=>absurd h (by decide)) λ_=>?_
 refine Wa (λh=>absurd h (by decide)) λ_=>?_
 refine Wa (λh=>absurd h (by decide)) λ_=>?_
 refine Wa (λh=>absurd h (by decide)) λ_=>?_
 refine Wa (λh=>absurd h (by decide)) λ_=>?_
 refine Wa (λ_=>?_) λh=>absurd h (by decide)
 refine Wa (λh=>by cases h) λ_=>qk_b (zDQ _ ns g) (Wa (λh=>by cases h) λ_=>qk_b l ?_)
 rw[zOf];refine Wa (λh=>by cases h) λ_=>?_
 rw[zOe,zCl _ ns g];refine Wp.bd (R:=λm=>m=zAp (ns++[[112,111,114,116,115]])) ⟨_,rfl,rfl⟩ λm j=>?_
 subst j;refine zL hr (Wa (λh=>by cases h) λ_=>?_)
 rw[zo (by omega)]
 exact q
theorem zYA{y:JE}(e:ofNat i<N)(s:i<1000000)(hi:ixN us (ofNat i)=some (.agg [.str ([114,117,108,101]++(61::w)),.int .i64 p]))(hv:z8 ([114,117,108,101]++(61::w))=some (.qe [.str [114,117,108,101],.str v,.bool true]))(g:[114,117,108,101] ∉ ns)(l:zc k [114,117,108,101]=some (.bool true))
  (hr:zDq k n u b c d i_ x1 x2 x3 x4 r ba v=some (.bool true,[(0,.cells false [.int .i64 k,.str n,.str u,.int .i64 b,.int .i64 c,.int .i64 d,.str i_,.int .i64 x1,.int .i64 x2,.int .i64 x3,.int .i64 x4,.qd 6 y,.int .i64 ba,.str v])],[]))
  (q:Wp (zg f l0 us N (ofNat (i+1)) k n u b c d i_ x1 x2 x3 x4 y ba v e0 e1 e2 e3 e4 e5 e6 e7 e8 e9 e10 e12 g0 g1 (zAp (ns++[[114,117,108,101]]))) P) {v0:JV}:Wp (zg (f+1) l0 us N (ofNat i) k n u b c d i_ x1 x2 x3 x4 r ba v0 e0 e1 e2 e3 e4 e5 e6 e7 e8 e9 e10 e12 g0 g1 (zAp ns)) P:=by
 rw[zR];refine Wc (λ_=>zBc hi (zBo hv (zFn zAl ?_))) λh=>absurd e h
 refine Wa (λh=>absurd h (by decide)) λ_=>?_
 refine Wa (λh=>absurd h (by decide)) λ_=>?_
 refine Wa (λh=>absurd h (by decide)) λ_=>?_
 refine Wa (λh=>absurd h (by decide)) λ_=>?_
 refine Wa (λh=>absurd h (by decide)) λ_=>?_
 refine Wa (λh=>absurd h (by decide)) λ_=>?_
 refine Wa (λh=>absurd h (by decide)) λ_=>?_
 refine Wa (λh=>absurd h (by decide)) λ_=>?_
 refine Wa (λh=>absurd h (by decide)) λ_=>?_
 refine Wa (λ_=>?_) λh=>absurd h (by decide)
 refine Wa (λh=>by cases h) λ_=>qk_b (zDQ _ ns g) (Wa (λh=>by cases h) λ_=>qk_b l ?_)
 rw[zOh];refine Wa (λh=>by cases h) λ_=>?_
 rw[zOg,zCl _ ns g];refine Wp.bd (R:=λm=>m=zAp (ns++[[114,117,108,101]])) ⟨_,rfl,rfl⟩ λm j=>?_
 subst j;refine zL hr (Wa (λh=>by cases h) λ_=>?_)
 rw[zo (by omega)]
 exact q
theorem zXs{y:Int}(e:ofNat i<N)(s:i<1000000)(hi:ixN us (ofNat i)=some (.agg [.str ([98,97,116,99,104]++(61::w)),.int .i64 p]))(hv:z8 ([98,97,116,99,104]++(61::w))=some (.qe [.str [98,97,116,99,104],.str v,.bool true]))(g:[98,97,116,99,104] ∉ ns)(l:zc k [98,97,116,99,104]=some (.bool true))
  (hr:zC0 k n u b c d i_ x1 x2 x3 x4 r ba v=some (.bool true,[(0,.cells false [.int .i64 k,.str n,.str u,.int .i64 b,.int .i64 c,.int .i64 d,.str i_,.int .i64 x1,.int .i64 x2,.int .i64 x3,.int .i64 x4,.qd 6 r,.int .i64 y,.str v])],[]))
  (q:Wp (zg f l0 us N (ofNat (i+1)) k n u b c d i_ x1 x2 x3 x4 r y v e0 e1 e2 e3 e4 e5 e6 e7 e8 e9 e10 e12 g0 g1 (zAp (ns++[[98,97,116,99,104]]))) P) {v0:JV}:Wp (zg (f+1) l0 us N (ofNat i) k n u b c d i_ x1 x2 x3 x4 r ba v0 e0 e1 e2 e3 e4 e5 e6 e7 e8 e9 e10 e12 g0 g1 (zAp ns)) P:=by
 rw[zR];refine Wc (λ_=>zBc hi (zBo hv (zFn zAl ?_))) λh=>absurd e h
 refine Wa (λh=>absurd h (by decide)) λ_=>?_
 refine Wa (λh=>absurd h (by decide)) λ_=>?_
 refine Wa (λh=>absurd h (by decide)) λ_=>?_
 refine Wa (λh=>absurd h (by decide)) λ_=>?_
 refine Wa (λh=>absurd h (by decide)) λ_=>?_
 refine Wa (λh=>absurd h (by decide)) λ_=>?_
 refine Wa (λh=>absurd h (by decide)) λ_=>?_
 refine Wa (λh=>absurd h (by decide)) λ_=>?_
 refine Wa (λh=>absurd h (by decide)) λ_=>?_
 refine Wa (λh=>absurd h (by decide)) λ_=>?_
 refine Wa (λ_=>?_) λh=>absurd h (by decide)
 refine Wa (λh=>by cases h) λ_=>qk_b (zDQ _ ns g) (Wa (λh=>by cases h) λ_=>qk_b l ?_)
 rw[zOj];refine Wa (λh=>by cases h) λ_=>?_
 rw[zOi,zCl _ ns g];refine Wp.bd (R:=λm=>m=zAp (ns++[[98,97,116,99,104]])) ⟨_,rfl,rfl⟩ λm j=>?_
 subst j;refine zL hr (Wa (λh=>by cases h) λ_=>?_)
 rw[zo (by omega)]
 exact q
end
end Go.Proofs.YtjfcepbllmdfcaaGreatDoor.record
