/- THE LAW OF THE LEAN FUNCTIONS, IN PLAIN LEAN: part 2. No condition. -/
import Derived.Test.YtjfcepbllmdfcaaGreatDoorRecordBackLawA
set_option linter.unusedVariables false
set_option linter.unusedSimpArgs false
set_option linter.unusedSectionVars false
open Int(ofNat)
namespace Go.Proofs.YtjfcepbllmdfcaaGreatDoor.record
open Go Go.Sy
variable[MX]
abbrev Ow(u:JV):List JV:=o1 (!zi u []) [117,115,101,114] u
abbrev Ob(b:Nat)(bs:JV):List JV:=o1 (ofNat b != 0) [98,97,110,100] bs
abbrev Oc(c:Nat):List JV:=o1 (decide ((c:Int) > 1)) [99,111,117,110,116] (dec c)
abbrev Od(d:Nat):List JV:=o1 (decide ((d:Int) > 1)) [100,111,119,110] (dec d)
abbrev Oi(i_:JV):List JV:=o1 (!zi i_ []) [105,110] i_
abbrev O6(x:Nat):List JV:=o1 ((x:Int) != 0) [99,112,117] (dec x)
abbrev O7(x:Nat):List JV:=o1 ((x:Int) != 0) [114,97,109] (dec x)
abbrev O8(x:Nat):List JV:=o1 ((x:Int) != 0) [100,105,115,107] (dec x)
abbrev O9(x:Nat):List JV:=o1 ((x:Int) != 0) [112,111,114,116,115] (dec x)
abbrev Or'(rc:Bool)(t:JV):List JV:=o1 rc [114,117,108,101] (34::(t++[34]))
abbrev Oba(ba:Nat):List JV:=o1 (decide ((ba:Int) > 1)) [98,97,116,99,104] (dec ba)
theorem wl{key w:JV}(h:key.length<=10)(g:w.length<=2000):(key++(61::w)).length<=65536:=by
 rw[QE,QL];omega
theorem zLd(n:Nat):∀c∈dec n,c≠34:=λc hc=>by
 have:=((zRv n).1 c hc).1;omega
theorem zbO{s:JV}(h:zq s=some (.bool true)):∀c∈s,c≠34:=λc hc e=>by
 have:=(zDF h).2.2 c hc;unfold nmC at this;omega
theorem zL8{s:JV}(h:(!zi s [])=false):s=[]:=zAJ (by simpa using h)
theorem nz{x:Nat}(h:((x:Int) != 0)=true):1<=x:=by
 have h:¬(x:Int)=0:=by simpa using h
 omega
theorem isz{x:Nat}(h:((x:Int) != 0)=false):ofNat 0=(x:Int):=by
 have h:(x:Int)=0:=by simpa using h
 rw[h];rfl
theorem gt1{x:Nat}(h:(decide ((x:Int) > 1))=true):1<=x:=by
 have:=Qm h;omega
section
variable{l0:JE}{us0:List Wd}{k c0 d0 ba0:Int}{n u i_ bs t:JV}{b c d x1 x2 x3 x4 ba:Nat}{r r0:JE}{rc:Bool}
theorem zZT(l:us0.map Prod.fst=Ow u++(Ob b bs++(Oc c++(Od d++(Oi i_++(O6 x1++(O7 x2++(O8 x3++(O9 x4++(Or' rc t++(Oba ba)))))))))))(j:us0.length<=1000)
  (wY:(!zi u [])=true->zd k [117,115,101,114]=some (.bool true)) (wU:(ofNat b != 0)=true->zd k [98,97,110,100]=some (.bool true)) (wI:(decide ((c:Int) > 1))=true->zd k [99,111,117,110,116]=some (.bool true)) (wX:(decide ((d:Int) > 1))=true->zd k [100,111,119,110]=some (.bool true)) (uc:(!zi i_ [])=true->zd k [105,110]=some (.bool true)) (vj:((x1:Int) != 0)=true->zd k [99,112,117]=some (.bool true)) (vo:((x2:Int) != 0)=true->zd k [114,97,109]=some (.bool true)) (wS:((x3:Int) != 0)=true->zd k [100,105,115,107]=some (.bool true)) (wF:((x4:Int) != 0)=true->zd k [112,111,114,116,115]=some (.bool true)) (wT:rc=true->zd k [114,117,108,101]=some (.bool true)) (wH:(decide ((ba:Int) > 1))=true->zd k [98,97,116,99,104]=some (.bool true))
  (hu:(!zi u [])=true->zq u=some (.bool true)) (hi:(!zi i_ [])=true->zq i_=some (.bool true)) (hb:zFe bs=some (.int .i64 (ofNat b))) (D:∀c∈bs,c≠34) (I:bs.length<=16)
  (hc:c<=100) (hd:d<=100) (vQ:ba<=100) (h1:x1<=1099511627776) (h2:x2<=1099511627776) (h3:x3<=1099511627776) (h4:x4<=1099511627776)
  (H:rc=true->t.length<=1024/\zCx t=some (.qd [.agg [.qf 6 r],.agg [.int .i64 (ofNat 0),.int .i64 (ofNat 0)]]))
  (vM:(decide ((c:Int) > 1))=false->c0=(c:Int)) (uD:(decide ((d:Int) > 1))=false->d0=(d:Int)) (vq:rc=false->r0=r) (v7:(decide ((ba:Int) > 1))=false->ba0=(ba:Int))
  (E:zAt k n u (ofNat b) (c:Int) (d:Int) i_ (x1:Int) (x2:Int) (x3:Int) (x4:Int) r (ba:Int)=some (.int .i64 0)):
  Wp (LN l0 us0 k n [] (ofNat 0) c0 d0 [] (ofNat 0) (ofNat 0) (ofNat 0) (ofNat 0) r0 ba0 FUEL 0 [] []) λv=>v=.qd [.agg [.int .i64 k,.str n,.str u,.int .i64 (ofNat b),.int .i64 (c:Int),.int .i64 (d:Int),.str i_,.int .i64 (x1:Int),.int .i64 (x2:Int),.int .i64 (x3:Int),.int .i64 (x4:Int),.qf 6 r,.int .i64 (ba:Int)],.agg [.int .i64 0,.int .i64 0]]:=by
 have hl:=congrArg List.length l;rw[QG]at hl;have dl:=λ(n:Nat) (h:n<=1099511627776)=>zGq n (by omega)
 have M:=dl c (by omega)
 have S:=dl d (by omega)
 have O:=dl ba (by omega)
 have W:=dl x1 h1;have Q:=dl x2 h2;have T:=dl x3 h3;have V:=dl x4 h4;refine opt (F:=λz=>LN l0 us0 k n z (ofNat 0) c0 d0 [] (ofNat 0) (ofNat 0) (ofNat 0) (ofNat 0) r0 ba0) (y1:=u) (key:=[117,115,101,114]) (A:=[]) (B:=Ob b bs++(Oc c++(Od d++(Oi i_++(O6 x1++(O7 x2++(O8 x3++(O9 x4++(Or' rc t++(Oba ba)))))))))) (w:=u) (v:=u) (cond:=(!zi u [])) (L:=[]) (by rw[l];simp only[QP,List.nil_append,Qk]) j (λh=>(zL8 h).symm) (λg f i ns v0 p a1 a2 a3 a4 q=>zaQ a1 a2 a3 (zBH (by decide) (wl (by decide) (by have:=(zDF (hu g)).2.1;omega)) (zbO (hu g))) a4 (wY g) (zc9 (hu g)) q) (by decide) ?_ FUEL 0 [] [] rfl (zD (by omega)) λs K=>K
 refine opt (F:=λz=>LN l0 us0 k n u z c0 d0 [] (ofNat 0) (ofNat 0) (ofNat 0) (ofNat 0) r0 ba0) (y1:=(ofNat b)) (key:=[98,97,110,100]) (A:=[]++Ow u) (B:=Oc c++(Od d++(Oi i_++(O6 x1++(O7 x2++(O8 x3++(O9 x4++(Or' rc t++(Oba ba))))))))) (w:=bs) (v:=bs) (cond:=(ofNat b != 0)) (L:=[[117,115,101,114]]) (by rw[l];simp only[QP,List.nil_append,Qk]) j (isz) (λg f i ns v0 p a1 a2 a3 a4 q=>zaR a1 a2 a3 (zBH (by decide) (wl (by decide) (by omega)) D) a4 (wU g) (zda hb (Ql _)) q) (by decide) ?_
 refine opt (F:=λz=>LN l0 us0 k n u (ofNat b) z d0 [] (ofNat 0) (ofNat 0) (ofNat 0) (ofNat 0) r0 ba0) (y1:=(c:Int)) (key:=[99,111,117,110,116]) (A:=([]++Ow u)++Ob b bs) (B:=Od d++(Oi i_++(O6 x1++(O7 x2++(O8 x3++(O9 x4++(Or' rc t++(Oba ba)))))))) (w:=(dec c)) (v:=(dec c)) (cond:=(decide ((c:Int) > 1))) (L:=[[98,97,110,100],[117,115,101,114]]) (by rw[l];simp only[QP,List.nil_append,Qk]) j (vM) (λg f i ns v0 p a1 a2 a3 a4 q=>zZF a1 a2 a3 (zBH (by decide) (wl (by decide) (by omega)) (zLd _)) a4 (wI g) (zaV (zEC c (gt1 g) (by omega))) q) (by decide) ?_
 refine opt (F:=λz=>LN l0 us0 k n u (ofNat b) (c:Int) z [] (ofNat 0) (ofNat 0) (ofNat 0) (ofNat 0) r0 ba0) (y1:=(d:Int)) (key:=[100,111,119,110]) (A:=(([]++Ow u)++Ob b bs)++Oc c) (B:=Oi i_++(O6 x1++(O7 x2++(O8 x3++(O9 x4++(Or' rc t++(Oba ba))))))) (w:=(dec d)) (v:=(dec d)) (cond:=(decide ((d:Int) > 1))) (L:=[[99,111,117,110,116],[98,97,110,100],[117,115,101,114]]) (by rw[l];simp only[QP,List.nil_append,Qk]) j (uD) (λg f i ns v0 p a1 a2 a3 a4 q=>zaS a1 a2 a3 (zBH (by decide) (wl (by decide) (by omega)) (zLd _)) a4 (wX g) (zdc (zEC d (gt1 g) (by omega))) q) (by decide) ?_
 refine opt (F:=λz=>LN l0 us0 k n u (ofNat b) (c:Int) (d:Int) z (ofNat 0) (ofNat 0) (ofNat 0) (ofNat 0) r0 ba0) (y1:=i_) (key:=[105,110]) (A:=((([]++Ow u)++Ob b bs)++Oc c)++Od d) (B:=O6 x1++(O7 x2++(O8 x3++(O9 x4++(Or' rc t++(Oba ba)))))) (w:=i_) (v:=i_) (cond:=(!zi i_ [])) (L:=[[100,111,119,110],[99,111,117,110,116],[98,97,110,100],[117,115,101,114]]) (by rw[l];simp only[QP,List.nil_append,Qk]) j (λh=>(zL8 h).symm) (λg f i ns v0 p a1 a2 a3 a4 q=>zeA a1 a2 a3 (zBH (by decide) (wl (by decide) (by have:=(zDF (hi g)).2.1;omega)) (zbO (hi g))) a4 (uc g) (zfr (hi g)) q) (by decide) ?_
 refine opt (F:=λz=>LN l0 us0 k n u (ofNat b) (c:Int) (d:Int) i_ z (ofNat 0) (ofNat 0) (ofNat 0) r0 ba0) (y1:=(x1:Int)) (key:=[99,112,117]) (A:=(((([]++Ow u)++Ob b bs)++Oc c)++Od d)++Oi i_) (B:=O7 x2++(O8 x3++(O9 x4++(Or' rc t++(Oba ba))))) (w:=(dec x1)) (v:=(dec x1)) (cond:=((x1:Int) != 0)) (L:=[[105,110],[100,111,119,110],[99,111,117,110,116],[98,97,110,100],[117,115,101,114]]) (by rw[l];simp only[QP,List.nil_append,Qk]) j (isz) (λg f i ns v0 p a1 a2 a3 a4 q=>zc7 a1 a2 a3 (zBH (by decide) (wl (by decide) (by omega)) (zLd _)) a4 (vj g) (zeB (zEC x1 (nz g) (by omega))) q) (by decide) ?_
 refine opt (F:=λz=>LN l0 us0 k n u (ofNat b) (c:Int) (d:Int) i_ (x1:Int) z (ofNat 0) (ofNat 0) r0 ba0) (y1:=(x2:Int)) (key:=[114,97,109]) (A:=((((([]++Ow u)++Ob b bs)++Oc c)++Od d)++Oi i_)++O6 x1) (B:=O8 x3++(O9 x4++(Or' rc t++(Oba ba)))) (w:=(dec x2)) (v:=(dec x2)) (cond:=((x2:Int) != 0)) (L:=[[99,112,117],[105,110],[100,111,119,110],[99,111,117,110,116],[98,97,110,100],[117,115,101,114]]) (by rw[l];simp only[QP,List.nil_append,Qk]) j (isz) (λg f i ns v0 p a1 a2 a3 a4 q=>zc8 a1 a2 a3 (zBH (by decide) (wl (by decide) (by omega)) (zLd _)) a4 (vo g) (zeC (zEC x2 (nz g) (by omega))) q) (by decide) ?_
 refine opt (F:=λz=>LN l0 us0 k n u (ofNat b) (c:Int) (d:Int) i_ (x1:Int) (x2:Int) z (ofNat 0) r0 ba0) (y1:=(x3:Int)) (key:=[100,105,115,107]) (A:=(((((([]++Ow u)++Ob b bs)++Oc c)++Od d)++Oi i_)++O6 x1)++O7 x2) (B:=O9 x4++(Or' rc t++(Oba ba))) (w:=(dec x3)) (v:=(dec x3)) (cond:=((x3:Int) != 0)) (L:=[[114,97,109],[99,112,117],[105,110],[100,111,119,110],[99,111,117,110,116],[98,97,110,100],[117,115,101,114]]) (by rw[l];simp only[QP,List.nil_append,Qk]) j (isz) (λg f i ns v0 p a1 a2 a3 a4 q=>zaT a1 a2 a3 (zBH (by decide) (wl (by decide) (by omega)) (zLd _)) a4 (wS g) (zdd (zEC x3 (nz g) (by omega))) q) (by decide) ?_
 refine opt (F:=λz=>LN l0 us0 k n u (ofNat b) (c:Int) (d:Int) i_ (x1:Int) (x2:Int) (x3:Int) z r0 ba0) (y1:=(x4:Int)) (key:=[112,111,114,116,115]) (A:=((((((([]++Ow u)++Ob b bs)++Oc c)++Od d)++Oi i_)++O6 x1)++O7 x2)++O8 x3) (B:=Or' rc t++(Oba ba)) (w:=(dec x4)) (v:=(dec x4)) (cond:=((x4:Int) != 0)) (L:=[[100,105,115,107],[114,97,109],[99,112,117],[105,110],[100,111,119,110],[99,111,117,110,116],[98,97,110,100],[117,115,101,114]]) (by rw[l];simp only[QP,List.nil_append,Qk]) j (isz) (λg f i ns v0 p a1 a2 a3 a4 q=>zZG a1 a2 a3 (zBH (by decide) (wl (by decide) (by omega)) (zLd _)) a4 (wF g) (zaX (zEC x4 (nz g) (by omega))) q) (by decide) ?_
 refine opt (F:=λz=>LN l0 us0 k n u (ofNat b) (c:Int) (d:Int) i_ (x1:Int) (x2:Int) (x3:Int) (x4:Int) z ba0) (y1:=r) (key:=[114,117,108,101]) (A:=(((((((([]++Ow u)++Ob b bs)++Oc c)++Od d)++Oi i_)++O6 x1)++O7 x2)++O8 x3)++O9 x4) (B:=Oba ba) (w:=(34::(t++[34]))) (v:=t) (cond:=rc) (L:=[[112,111,114,116,115],[100,105,115,107],[114,97,109],[99,112,117],[105,110],[100,111,119,110],[99,111,117,110,116],[98,97,110,100],[117,115,101,114]]) (by rw[l];simp only[QP,List.nil_append,Qk]) j (vq) (λg f i ns v0 p a1 a2 a3 a4 q=>zaU a1 a2 a3 (zX2 (by decide) (wl (w:=34::(t++[34])) (by decide) (by have:=(H g).1;rw[QL,QE];show t.length+1+1<=_;omega))) a4 (wT g) (zdb (H g).2) q) (by decide) ?_
 refine opt (F:=λz=>LN l0 us0 k n u (ofNat b) (c:Int) (d:Int) i_ (x1:Int) (x2:Int) (x3:Int) (x4:Int) r z) (y1:=(ba:Int)) (key:=[98,97,116,99,104]) (A:=((((((((([]++Ow u)++Ob b bs)++Oc c)++Od d)++Oi i_)++O6 x1)++O7 x2)++O8 x3)++O9 x4)++Or' rc t) (B:=[]) (w:=(dec ba)) (v:=(dec ba)) (cond:=(decide ((ba:Int) > 1))) (L:=[[114,117,108,101],[112,111,114,116,115],[100,105,115,107],[114,97,109],[99,112,117],[105,110],[100,111,119,110],[99,111,117,110,116],[98,97,110,100],[117,115,101,114]]) (by rw[l];simp only[QP,List.nil_append,Qk]) j (v7) (λg f i ns v0 p a1 a2 a3 a4 q=>zZH a1 a2 a3 (zBH (by decide) (wl (by decide) (by omega)) (zLd _)) a4 (wH g) (zaW (zEC ba (gt1 g) (by omega))) q) (by decide) ?_
 intro f i ns v0 hi U J;have C:us0.map Prod.fst=(((((((((([]++Ow u)++Ob b bs)++Oc c)++Od d)++Oi i_)++O6 x1)++O7 x2)++O8 x3)++O9 x4)++Or' rc t)++Oba ba:=by rw[l];simp only[QP,List.nil_append]
 have x:=congrArg List.length C;rw[QG]at x;have hi:i=us0.length:=hi.trans x.symm;cases f with
 |zero=>omega
 |succ f=>
  unfold LN;rw[zU];refine Wc (λh=>by rw[qr,qr]at h;omega) λ_=>?_
  exact zCE E (Wa (λh=>by cases h) λ_=>Wb rfl)
end
end Go.Proofs.YtjfcepbllmdfcaaGreatDoor.record
namespace Go.Proofs.YtjfcepbllmdfcaaGreatDoor.record
open Go Go.Sy
variable[MX]
def zTi(x:JV)(a:AV):Prop:=∃us:List Wd,us≠[]/\zIK x 0=some (.qd [.qf 2 (wds 0 us),.agg [.int .i64 0,.int .i64 0]])/\zHf (wds 0 us)=some (.qd [a,.agg [.int .i64 0,.int .i64 0]])
theorem zFZ{c:Bool}{key v w:JV}(h:w∈o1 c key v):c=true/\w=key++(61::v):=by
 cases c with
 |false=>simp[o1]at h
 |true=>exact⟨rfl,by simpa[o1]using h⟩
theorem zDX{key v:JV}(g:∀c∈key,okW c)(hv:∀c∈v,okW c):zL6 (key++(61::v)):=.inl ⟨by simp,λc hc=>by
 rcases QI.1 hc with hc|hc
 .exact g c hc
 .rcases QJ.1 hc with rfl|hc
  .exact⟨by decide,by decide,by decide,by decide⟩
  .exact hv c hc⟩
theorem zdh{key v:JV}(h0:key≠[])(j:∀c∈key,okW c)(g:61 ∉ key)(hv:okS v):zL6 (key++(61::(34::(v++[34])))):=.inr ⟨key,v,by simp,⟨h0,j⟩,g,hv⟩
theorem zCb{l:JV}(h:l.all (λc=>decide (33<=c/\c<=126/\c≠34/\c≠35))=true):∀c∈l,okW c:=λc hc=>by
 have h:decide (33<=c/\c<=126/\c≠34/\c≠35)=true:=QH.1 h c hc;show 33<=c/\c<=126/\c≠34/\c≠35
 exact Qm h
theorem zRz{s:JV}(h:zq s=some (.bool true)):∀c∈s,okW c:=λc hc=>by
 have:=(zDF h).2.2 c hc;unfold nmC at this;unfold okW;omega
theorem zI9(n:Nat):∀c∈dec n,okW c:=λc hc=>by
 have:=(zRv n).1 c hc;unfold okW;omega
theorem zNR{b:Nat}{s:JV}(h:zGr[b]?=some s):(∀c∈s,okW c)/\s.length<=16:=by
 have g:=QF h;have:∀s∈zGr,s.all (λc=>decide (33<=c/\c<=126/\c≠34/\c≠35))=true/\s.length<=16:=by decide
 exact⟨zCb (this s g).1,(this s g).2⟩
structure Sp(k c0 d0 ba0:Int)(n u i_ bs t kw:JV)(b c d x1 x2 x3 x4 ba:Nat)(r r0:JE)(rc:Bool):Prop where
 nm:zq n=some (.bool true)
 ck:zAt k n u (ofNat b) (c:Int) (d:Int) i_ (x1:Int) (x2:Int) (x3:Int) (x4:Int) r (ba:Int)=some (.int .i64 0)
 wY:(!zi u [])=true->zd k [117,115,101,114]=some (.bool true)
 wU:(ofNat b != 0)=true->zd k [98,97,110,100]=some (.bool true)
 wI:(decide ((c:Int) > 1))=true->zd k [99,111,117,110,116]=some (.bool true)
 wX:(decide ((d:Int) > 1))=true->zd k [100,111,119,110]=some (.bool true)
 uc:(!zi i_ [])=true->zd k [105,110]=some (.bool true)
 vj:((x1:Int) != 0)=true->zd k [99,112,117]=some (.bool true)
 vo:((x2:Int) != 0)=true->zd k [114,97,109]=some (.bool true)
 wS:((x3:Int) != 0)=true->zd k [100,105,115,107]=some (.bool true)
 wF:((x4:Int) != 0)=true->zd k [112,111,114,116,115]=some (.bool true)
 wT:rc=true->zd k [114,117,108,101]=some (.bool true)
 wH:(decide ((ba:Int) > 1))=true->zd k [98,97,116,99,104]=some (.bool true)
 hu:(!zi u [])=true->zq u=some (.bool true)
 hi:(!zi i_ [])=true->zq i_=some (.bool true)
 vJ:zCw (ofNat b)=some (.str bs)
 we:zGr[b]?=some bs
 hb:zFe bs=some (.int .i64 (ofNat b))
 hc:c<100
 hd:d<100
 vQ:ba<100
 h1:x1<=1099511627776
 h2:x2<=1099511627776
 h3:x3<=1099511627776
 h4:x4<=1099511627776
 rt:zQt rc r t
 vM:(decide ((c:Int) > 1))=false->c0=(c:Int)
 uD:(decide ((d:Int) > 1))=false->d0=(d:Int)
 vq:rc=false->r0=r
 v7:(decide ((ba:Int) > 1))=false->ba0=(ba:Int)
 jd:kw≠[]
 u9:∀c∈kw,okW c
 jb:kw.length<=16
 tx:∀P,Wp (zCi k n u (ofNat b) (c:Int) (d:Int) i_ (x1:Int) (x2:Int) (x3:Int) (x4:Int) r (ba:Int) ([kw,n].map .str)) P->Wp (zBr k n u (ofNat b) (c:Int) (d:Int) i_ (x1:Int) (x2:Int) (x3:Int) (x4:Int) r (ba:Int)) P
 li:∀l0 (p:Int),ixN l0 0=some (.agg [.str kw,.int .i64 p])->zHf l0=zEj l0 k [] [] (ofNat 0) c0 d0 [] (ofNat 0) (ofNat 0) (ofNat 0) (ofNat 0) r0 ba0 [] (ofNat 0) [] [] (ofNat 0) (ofNat 0) (ofNat 0) [] (ofNat 0) (ofNat 0) (ofNat 0) (ofNat 0) (ofNat 0) (ofNat 0) (ofNat 0)
section
variable{k c0 d0 ba0:Int}{n u i_ bs t kw:JV}{b c d x1 x2 x3 x4 ba:Nat}{r r0:JE}{rc:Bool}
theorem Sp.uN(S:Sp k c0 d0 ba0 n u i_ bs t kw b c d x1 x2 x3 x4 ba r r0 rc)(h:rc=true):zM6 r t:=by
 rcases S.rt with⟨e,_⟩|⟨_,_,_,g⟩
 .rw[h]at e;cases e
 .exact g
theorem Sp.ul(S:Sp k c0 d0 ba0 n u i_ bs t kw b c d x1 x2 x3 x4 ba r r0 rc):u.length<=16:=by
 by_cases h:(!zi u [])=true
 .exact(zDF (S.hu h)).2.1
 .rw[zL8 (s:=u) (by simpa using h)];exact QN _
theorem Sp.il(S:Sp k c0 d0 ba0 n u i_ bs t kw b c d x1 x2 x3 x4 ba r r0 rc):i_.length<=16:=by
 by_cases h:(!zi i_ [])=true
 .exact(zDF (S.hi h)).2.1
 .rw[zL8 (s:=i_) (by simpa using h)];exact QN _
theorem Sp.vN(S:Sp k c0 d0 ba0 n u i_ bs t kw b c d x1 x2 x3 x4 ba r r0 rc):∀w∈[kw,n]++(Ow u++(Ob b bs++(Oc c++(Od d++(Oi i_++(O6 x1++(O7 x2++(O8 x3++(O9 x4++(Or' rc t++(Oba ba))))))))))),zL6 w:=by
 intro w g;simp only[QI]at g;rcases g with g|g|g|g|g|g|g|g|g|g|g|g
 .rcases QJ.1 g with rfl|g
  .exact .inl ⟨S.jd,S.u9⟩
  .rw[QU.1 g];exact .inl ⟨(zDF S.nm).1,zRz S.nm⟩
 .have g:=zFZ g;rw[g.2];exact zDX (zCb rfl) (zRz (S.hu g.1))
 .have g:=zFZ g;rw[g.2];exact zDX (zCb rfl) ((zNR S.we).1)
 .have g:=zFZ g;rw[g.2];exact zDX (zCb rfl) (zI9 _)
 .have g:=zFZ g;rw[g.2];exact zDX (zCb rfl) (zI9 _)
 .have g:=zFZ g;rw[g.2];exact zDX (zCb rfl) (zRz (S.hi g.1))
 .have g:=zFZ g;rw[g.2];exact zDX (zCb rfl) (zI9 _)
 .have g:=zFZ g;rw[g.2];exact zDX (zCb rfl) (zI9 _)
 .have g:=zFZ g;rw[g.2];exact zDX (zCb rfl) (zI9 _)
 .have g:=zFZ g;rw[g.2];exact zDX (zCb rfl) (zI9 _)
 .have g:=zFZ g;rw[g.2];exact zdh (by decide) (zCb rfl) (by decide) (S.uN g.1).2.1
 .have g:=zFZ g;rw[g.2];exact zDX (zCb rfl) (zI9 _)
theorem Sp.text(S:Sp k c0 d0 ba0 n u i_ bs t kw b c d x1 x2 x3 x4 ba r r0 rc):Wp (zBr k n u (ofNat b) (c:Int) (d:Int) i_ (x1:Int) (x2:Int) (x3:Int) (x4:Int) r (ba:Int)) (zM7 ([kw,n]++(Ow u++(Ob b bs++(Oc c++(Od d++(Oi i_++(O6 x1++(O7 x2++(O8 x3++(O9 x4++(Or' rc t++(Oba ba))))))))))))):=by
 have e:[kw,n]++(Ow u++(Ob b bs++(Oc c++(Od d++(Oi i_++(O6 x1++(O7 x2++(O8 x3++(O9 x4++(Or' rc t++(Oba ba)))))))))))=(((((((((([kw,n]++Ow u)++Ob b bs)++Oc c)++Od d)++Oi i_)++O6 x1)++O7 x2)++O8 x3)++O9 x4)++Or' rc t)++Oba ba:=by simp only[QP]
 rw[e];exact S.tx _ (zdg (L:=[kw,n]) ⟨QB _,λw g=>by
  rcases QJ.1 g with rfl|g
  .have:=S.jb;omega
  .rw[QU.1 g];have:=(zDF S.nm).2.1;omega⟩ S.ul S.il S.vJ (zNR S.we).2 S.hc S.hd S.vQ S.h1 S.h2 S.h3 S.h4 S.rt)
theorem Sp.line(S:Sp k c0 d0 ba0 n u i_ bs t kw b c d x1 x2 x3 x4 ba r r0 rc){us:List Wd}(g:us.map Prod.fst=[kw,n]++(Ow u++(Ob b bs++(Oc c++(Od d++(Oi i_++(O6 x1++(O7 x2++(O8 x3++(O9 x4++(Or' rc t++(Oba ba))))))))))))(hl:us.length<=1000):zHf (wds 0 us)=some (.qd [.agg [.int .i64 k,.str n,.str u,.int .i64 (ofNat b),.int .i64 (c:Int),.int .i64 (d:Int),.str i_,.int .i64 (x1:Int),.int .i64 (x2:Int),.int .i64 (x3:Int),.int .i64 (x4:Int),.qf 6 r,.int .i64 (ba:Int)],.agg [.int .i64 0,.int .i64 0]]):=by
 have x:us.length=2+(Ow u++(Ob b bs++(Oc c++(Od d++(Oi i_++(O6 x1++(O7 x2++(O8 x3++(O9 x4++(Or' rc t++(Oba ba))))))))))).length:=by
  have:=congrArg List.length g;rw[QG,QE]at this;exact this
 obtain⟨p0,B,_⟩:=zVG (A:=[]) (w:=kw) g;obtain⟨p1,j,_⟩:=zVG (A:=[kw]) (w:=n) g;refine zD2 ?_
 rw[S.li _ p0 B,zQQ];refine Wc (λ_=>?_) λh=>absurd (by rw[zM5,x,qr];omega) h
 refine zBy j (qk_b S.nm (Wa (λh=>by cases h) λ_=>zBy j ?_))
 rw[zQP,zM5];have s:(if ofNat us.length<2 then ofNat us.length else 2)=ofNat 2:=if_neg (by rw[qr];omega)
 rw[s];have hd:List.drop (Int.toNat (ofNat 2)) (List.take (Int.toNat (ofNat us.length)) (wds 0 us))=wds 0 (us.drop 2):=by
  show List.drop 2 (List.take us.length (wds 0 us))=_
  rw[List.take_of_length_le (by rw[zM5];exact QB _)]
  unfold wds;rw[List.map_drop]
 rw[hd,zM5];refine We ⟨Ql _,Qv.2 (by omega)⟩ ?_
 have z:(us.drop 2).map Prod.fst=Ow u++(Ob b bs++(Oc c++(Od d++(Oi i_++(O6 x1++(O7 x2++(O8 x3++(O9 x4++(Or' rc t++(Oba ba)))))))))):=by
  rw[List.map_drop,g];rfl
 have l:=zNR S.we;exact zZT z (by rw[Qn];omega) S.wY S.wU S.wI S.wX S.uc S.vj S.vo S.wS S.wF S.wT S.wH S.hu S.hi S.hb (λc hc=>(l.1 c hc).2.2.1) l.2 (Qe S.hc) (Qe S.hd) (Qe S.vQ) S.h1 S.h2 S.h3 S.h4 (λh=>⟨(S.uN h).2.2.1,(S.uN h).2.2.2.2⟩) S.vM S.uD S.vq S.v7 S.ck
theorem Sp.back(S:Sp k c0 d0 ba0 n u i_ bs t kw b c d x1 x2 x3 x4 ba r r0 rc):∃x,zBr k n u (ofNat b) (c:Int) (d:Int) i_ (x1:Int) (x2:Int) (x3:Int) (x4:Int) r (ba:Int)=some (.qd [.str x,.int .i64 (ofNat 0)])/\x.length<=65536/\(∀c∈x,okT c)/\zTi x (.agg [.int .i64 k,.str n,.str u,.int .i64 (ofNat b),.int .i64 (c:Int),.int .i64 (d:Int),.str i_,.int .i64 (x1:Int),.int .i64 (x2:Int),.int .i64 (x3:Int),.int .i64 (x4:Int),.qf 6 r,.int .i64 (ba:Int)]):=by
 obtain⟨_,e,rfl,j⟩:=S.text;have s:=zPI j.2;have l:=Nat.mul_le_mul_right (1100+1) j.1;have hl:(zAx [32] ([kw,n]++(Ow u++(Ob b bs++(Oc c++(Od d++(Oi i_++(O6 x1++(O7 x2++(O8 x3++(O9 x4++(Or' rc t++(Oba ba))))))))))))).length<=65536:=by omega
 refine⟨_,e,hl,zW1 S.vN,?_⟩
 obtain⟨us,h1,h2⟩:=zZD (by simp) S.vN hl
 have g:us.length<=1000:=by
  have:=congrArg List.length h1;rw[QG]at this;rw[this];have:=j.1;omega
 have h3:=S.line h1 g;exact⟨us,λe=>(by subst e;cases h1),h2,h3⟩
end
end Go.Proofs.YtjfcepbllmdfcaaGreatDoor.record
namespace Go.Proofs.YtjfcepbllmdfcaaGreatDoor.record
open Go Go.Sy
variable[MX]
theorem nof{l:JV}(h:(!zi l [])=true)(e:l=[]):False:=by subst e;cases h
theorem dgt{x:Nat}{y:Int}(h:(decide ((x:Int) > 1))=false)(h1:y<=1)(h2:y<=(x:Int))(h3:(x:Int)<=1->(x:Int)<=y):y=(x:Int):=by
 have:=of_decide_eq_false h;omega
section
variable{k:Int}{n:JV}{u:JV}{b:Int}{c:Int}{d:Int}{i_:JV}{x1:Int}{x2:Int}{x3:Int}{x4:Int}{r:JE}{ba:Int}
theorem back(hr:Nds r)(g:zAt k n u b c d i_ x1 x2 x3 x4 r ba=some (.int .i64 0)):∃x,zBr k n u b c d i_ x1 x2 x3 x4 r ba=some (.qd [.str x,.int .i64 (ofNat 0)])/\x.length<=65536/\(∀c∈x,okT c)/\zTi x (.agg [.int .i64 k,.str n,.str u,.int .i64 b,.int .i64 c,.int .i64 d,.str i_,.int .i64 x1,.int .i64 x2,.int .i64 x3,.int .i64 x4,.qf 6 r,.int .i64 ba]):=by
 obtain⟨nm,⟨⟨a1,C⟩,⟨a2,H⟩,⟨a3,D⟩,⟨a4,I⟩⟩,h⟩:=zWr hr g;obtain⟨x1,rfl⟩:=Int.eq_ofNat_of_zero_le a1;obtain⟨x2,rfl⟩:=Int.eq_ofNat_of_zero_le a2;obtain⟨x3,rfl⟩:=Int.eq_ofNat_of_zero_le a3;obtain⟨x4,rfl⟩:=Int.eq_ofNat_of_zero_le a4;rcases h with⟨rfl,hu,⟨q1,z⟩,⟨A,B⟩,⟨F,E⟩,rfl,⟨t,j⟩,hi⟩|⟨rfl,hu,⟨q1,z⟩,⟨A,B⟩,rfl,rfl,rfl,t,j⟩|⟨rfl,rfl,rfl,rfl,rfl,rfl,rfl,q1,z⟩
 .obtain⟨b,rfl⟩:=Int.eq_ofNat_of_zero_le q1;obtain⟨c,rfl⟩:=Int.eq_ofNat_of_zero_le (show 0<=c by omega)
  obtain⟨d,rfl⟩:=Int.eq_ofNat_of_zero_le (show 0<=d by omega)
  obtain⟨bs,vJ,we,hb⟩:=zRy (b:=b) (by omega)
  obtain⟨y,l,s⟩:=zRx hr;have rt:zQt (!y) r t:=by
   cases y with
   |true=>exact .inl ⟨rfl,.inr l⟩
   |false=>exact .inr ⟨rfl,j.1,l,j⟩
  have vq:(!y)=false->zRY=r:=λh=>(s (by simpa using h)).symm
  have S:Sp 1 1 1 0 n u i_ bs t [106,111,98] b c d x1 x2 x3 x4 0 r zRY (!y):={
   nm:=nm
   ck:=g
   wY:=λ_=>zZI
   wU:=λ_=>zZJ
   wI:=λ_=>zX4
   wX:=λ_=>zZK
   uc:=λ_=>zde
   vj:=λ_=>zaY
   vo:=λ_=>zaZ
   wS:=λ_=>zZL
   wF:=λ_=>zX5
   wT:=λ_=>zZM
   wH:=λh=>by cases h
   hu:=λ_=>hu
   hi:=λh=>hi.elim (λe=>(nof h e).elim) id
   hc:=by omega
   hd:=by omega
   vQ:=by decide
   rt:=rt
   vM:=λh=>dgt h (by omega) (by omega) (by omega)
   uD:=λh=>dgt h (by omega) (by omega) (by omega)
   vq:=vq
   v7:=λ_=>rfl
   vJ:=vJ
   we:=we
   hb:=hb
   h1:=by omega
   h2:=by omega
   h3:=by omega
   h4:=by omega
   jd:=by decide
   u9:=zCb rfl
   jb:=by decide
   tx:=λP q=>by
    rw[zJg];exact zCE g (Wa (λh=>by cases h) λ_=>Wc (λh=>absurd h (by decide:¬((1:Int)=3))) λ_=>Wc (λh=>absurd h (by decide:¬((1:Int)=2))) λ_=>Wc (λ_=>q) λh=>absurd rfl h)
   li:=λl0 p h=>by
    rw[zJh,h,zTb,zD8];rfl }
  exact S.back
 .obtain⟨b,rfl⟩:=Int.eq_ofNat_of_zero_le q1;obtain⟨c,rfl⟩:=Int.eq_ofNat_of_zero_le (show 0<=c by omega)
  obtain⟨bs,vJ,we,hb⟩:=zRy (b:=b) (by omega)
  obtain⟨y,l,s⟩:=zRx hr;have rt:zQt (!y) r t:=by
   cases y with
   |true=>exact .inl ⟨rfl,.inr l⟩
   |false=>exact .inr ⟨rfl,j.1,l,j⟩
  have vq:(!y)=false->zRY=r:=λh=>(s (by simpa using h)).symm
  have S:Sp 2 1 0 0 n u [] bs t [97,108,108,111,99] b c 0 x1 x2 x3 x4 0 r zRY (!y):={
   nm:=nm
   ck:=g
   wY:=λ_=>zZN
   wU:=λ_=>zZO
   wI:=λ_=>zX6
   wX:=λh=>by cases h
   uc:=λh=>by cases h
   vj:=λ_=>za0
   vo:=λ_=>za1
   wS:=λ_=>zZP
   wF:=λ_=>zX7
   wT:=λ_=>zZQ
   wH:=λh=>by cases h
   hu:=λ_=>hu
   hi:=λh=>by cases h
   hc:=by omega
   hd:=by decide
   vQ:=by decide
   rt:=rt
   vM:=λh=>dgt h (by omega) (by omega) (by omega)
   uD:=λ_=>rfl
   vq:=vq
   v7:=λ_=>rfl
   vJ:=vJ
   we:=we
   hb:=hb
   h1:=by omega
   h2:=by omega
   h3:=by omega
   h4:=by omega
   jd:=by decide
   u9:=zCb rfl
   jb:=by decide
   tx:=λP q=>by
    rw[zJg];exact zCE g (Wa (λh=>by cases h) λ_=>Wc (λh=>absurd h (by decide:¬((2:Int)=3))) λ_=>Wc (λ_=>q) λh=>absurd rfl h)
   li:=λl0 p h=>by
    rw[zJh,h,zTb,zD8];rfl }
  exact S.back
 .obtain⟨ba,rfl⟩:=Int.eq_ofNat_of_zero_le (show 0<=ba by omega)
  obtain⟨bs,vJ,we,hb⟩:=zRy (b:=0) (by omega)
  have S:Sp 3 0 0 1 n [] [] bs [] [117,112,100,97,116,101] 0 0 0 x1 x2 x3 x4 ba [] [] false:={
   nm:=nm
   ck:=g
   wY:=λh=>by cases h
   wU:=λh=>by cases h
   wI:=λh=>by cases h
   wX:=λh=>by cases h
   uc:=λh=>by cases h
   vj:=λ_=>za2
   vo:=λ_=>za3
   wS:=λ_=>zZR
   wF:=λ_=>zX8
   wT:=λh=>by cases h
   wH:=λ_=>zX9
   hu:=λh=>by cases h
   hi:=λh=>by cases h
   hc:=by decide
   hd:=by decide
   vQ:=by omega
   rt:=.inl ⟨rfl,.inl rfl⟩
   vM:=λ_=>rfl
   uD:=λ_=>rfl
   vq:=λ_=>rfl
   v7:=λh=>dgt h (by omega) (by omega) (by omega)
   vJ:=vJ
   we:=we
   hb:=hb
   h1:=by omega
   h2:=by omega
   h3:=by omega
   h4:=by omega
   jd:=by decide
   u9:=zCb rfl
   jb:=by decide
   tx:=λP q=>by
    rw[zJg];exact zCE g (Wa (λh=>by cases h) λ_=>Wc (λ_=>q) λh=>absurd rfl h)
   li:=λl0 p h=>by
    rw[zJh,h,zTb];rfl }
  exact S.back
end
theorem zUa:∀{x:JV},10 ∉ x->zG7 10 x=[x]
 |[],_=>rfl
 |c::x,h=>by
  have j:=zUa (x:=x) λg=>h (.tail _ g)
  rw[zG7];have:Nat.beq c 10=false:=by
   cases e:Nat.beq c 10 with
   |false=>rfl
   |true=>exact absurd (.head _) (Nat.eq_of_beq_eq_true e▸h)
  rw[this,j]
theorem zZU{x:JV}{k b c d x1 x2 x3 x4 ba:Int}{n u i_:JV}{r:JE}(hl:x.length<=65536)(g:10 ∉ x)(h:zTi x (.agg [.int .i64 k,.str n,.str u,.int .i64 b,.int .i64 c,.int .i64 d,.str i_,.int .i64 x1,.int .i64 x2,.int .i64 x3,.int .i64 x4,.qf 6 r,.int .i64 ba])):zEk x=some (.qd [.qf 13 [.agg [.int .i64 k,.str n,.str u,.int .i64 b,.int .i64 c,.int .i64 d,.str i_,.int .i64 x1,.int .i64 x2,.int .i64 x3,.int .i64 x4,.qf 6 r,.int .i64 ba]],.agg [.int .i64 (ofNat 0),.int .i64 (ofNat 0)]]):=by
 obtain⟨us,hu,h1,h2⟩:=h;have j:zMc x [10]=some (.qf 1 [.str x]):=by
  show(match Nat.blt x.length 4294967281&&Nat.blt 10 256 with
   |true=>some (AV.qf 1 ((zG7 10 x).map .str))
   |false=>none)=_
  rw[show Nat.blt x.length 4294967281=true from by rw[Qi];omega,zUa g]
  rfl
 have e0:(ofNat (wds 0 us).length==0)=false:=by
  cases us with
  |nil=>exact absurd rfl hu
  |cons a l=>rfl
 rw[zSV,show decide (ofNat x.length > 65536)=false from Qd (by rw[qr];omega),zj,j]
 show zCj FUEL (ofNat 0) [.str x] (ofNat 1) (ofNat 0) (ofNat 0) (ofNat 0) []=_
 rw[zL2,zI0];show dK true yad (zIK x 0) _=_
 rw[h1];show br (ofNat (wds 0 us).length==0) _ _=_
 rw[e0,zj,h2];show zCj 1180591620717411303423 (wrapx IntKind.i64 (ofNat 0+wrapx IntKind.i64 (ofNat x.length+1))) [.str x] (ofNat 1) (ofNat 1) (ofNat 0) (ofNat 0) [_]=_
 rw[show(1180591620717411303423:Nat)=1180591620717411303422+1 from rfl,zI0]
 rfl
theorem zZV:∃l,zEk []=some (.qd [.qf 13 l,.agg [.int .i64 (ofNat 0),.int .i64 (ofNat 0)]]):=by
 refine⟨[],?_⟩
 unfold zEk gV;rw[zH0]
 kernel_rfl
end Go.Proofs.YtjfcepbllmdfcaaGreatDoor.record
namespace Go.Proofs.YtjfcepbllmdfcaaGreatDoor.record
open Go Go.Sy
variable[MX]
section
variable{k:Int}{n:JV}{u:JV}{b:Int}{c:Int}{d:Int}{i_:JV}{x1:Int}{x2:Int}{x3:Int}{x4:Int}{r:JE}{ba:Int}
theorem zZW{o:JF}{G:Prop}(h:Wp o isE)(g:G):Wp o (zz G):=h.mono λ_ _ _=>g
theorem j2S{t:Bool}(hr:NdB r):Wp (zAy t k n u b c d i_ x1 x2 x3 x4 r ba) (zz (Nds r)):=by
 rw[zGb];refine Wa (λj=>?_) λ_=>j1F
 obtain⟨_,e,z,rfl,g⟩:=zJv r hr;refine zCE e (Wa (λh=>?_) λ_=>j1F)
 have N:=(g (by simpa using h)).2
 exact zZW (Wa (λ_=>z5 _) λ_=>zAn (zBn i_) λx _=>Wa (λ_=>zAn (zVB r hr) λx _=>z5 _) λ_=>z5 _) N
theorem strict(hr:NdB r)(h:zAt k n u b c d i_ x1 x2 x3 x4 r ba=some (.int .i64 0)):Nds r:=by
 refine zX3 ?_ h
 have j:∀t,Wp (zBQ t k n u b c d i_ x1 x2 x3 x4 r ba) (zz (Nds r)):=λt=>by
  rw[zGe];have g:=λ{t}=>j2S (k:=k) (n:=n) (u:=u) (b:=b) (c:=c) (d:=d) (i_:=i_) (x1:=x1) (x2:=x2) (x3:=x3) (x4:=x4) (ba:=ba) (t:=t) hr
  refine Wa (λ_=>Wa (λ_=>zAn (zBn u) λx _=>Wa (λ_=>zAn (zBX ..) λx _=>Wa (λ_=>zAn (zBX ..) λx _=>Wa (λ_=>zAn (zBX ..) λx _=>Wa (λ_=>g) λ_=>g) λ_=>g) λ_=>g) λ_=>g) λ_=>g) λ_=>Wa (λ_=>Wa (λ_=>zAn (zBn u) λx _=>Wa (λ_=>zAn (zBX ..) λx _=>Wa (λ_=>zAn (zBX ..) λx _=>Wa (λ_=>Wa (λ_=>Wa (λ_=>Wa (λ_=>?_) λ_=>j1F) λ_=>j1F) λ_=>j1F) λ_=>j1F) λ_=>j1F) λ_=>j1F) λ_=>j1F) λ_=>Wa (λ_=>?_) λ_=>j1F
  .obtain⟨_,e,z,rfl,s⟩:=zJv r hr;exact zCE e (j1B λh=>(s (by simpa using h)).2)
  .exact Wa (λ_=>Wa (λ_=>Wa (λ_=>Wa (λ_=>Wa (λ_=>Wa (λ_=>Wa (λh=>by
    rw[len0 h];exact zZW (zAn (zBX ..) λx _=>z5 _) ⟨λe l=>(by cases l),QN _⟩) λ_=>j1F) λ_=>j1F) λ_=>j1F) λ_=>j1F) λ_=>j1F) λ_=>j1F) λ_=>j1F
 rw[zIR];exact zAn (zBn n) λx _=>Wa (λ_=>zCE (zGp x1 x2 x3 x4) (Wa (λ_=>j _) λ_=>j _)) λ_=>j _
end
end Go.Proofs.YtjfcepbllmdfcaaGreatDoor.record
namespace Go.Proofs.YtjfcepbllmdfcaaGreatDoor.record
open Go Go.Sy
def uv(x:Nat):JV:=if h:x<128 then[x]else(x % 128+128)::uv (x / 128)
termination_by x
decreasing_by omega
theorem zL9{x:Nat}(h:x<128):uv x=[x]:=by rw[uv,dif_pos h]
theorem zQu{x:Nat}(h:¬x<128):uv x=(x % 128+128)::uv (x / 128):=by rw[uv,dif_neg h]
theorem zeE(k:Nat):∀x:Nat,x<128 ^ k->0<k->(uv x).length<=k:=by
 induction k with
 |zero=>intro x _ h;omega
 |succ k l=>
  intro x g _;by_cases h:x<128
  .rw[zL9 h];simp
  .rw[zQu h,QL];have:0<k:=by
    rcases Nat.eq_zero_or_pos k with rfl|j
    .exact absurd (by simpa using g) h
    .exact j
   have:=l (x / 128) (by rw[Nat.pow_succ]at g;omega) this
   omega
theorem zMa{x:Nat}(h:x<18446744073709551616):(uv x).length<=10:=zeE 10 x (QW h (by decide)) (by decide)
def tv(s:JV):JV:=uv s.length++s
def uw(x:Int):Nat:=(x % 18446744073709551616).toNat
theorem zQv(x:Int):uw x<18446744073709551616:=by unfold uw;omega
theorem zG9(n:Nat)(h:n<18446744073709551616):uw (ofNat n)=n:=by unfold uw;rw[qr];omega
variable[MX]
abbrev bys(s:JV):JE:=s.map λb=>AV.int .u8 (ofNat b)
abbrev vec1(b:JE):Option (AV×Heap×Vecs):=some (.sym 0,[],[(0,.vec 1 b)])
theorem zH7(s t:JV):bys (s++t)=bys s++bys t:=Qu ..
theorem zbP{n k:Nat}(h:n+k<=70000000000000):(n+k)*1<=zc/\n+k<=zc:=by unfold zc;omega
theorem zFd{β:Type}{n k:Nat}{o:Option β}(h:n+k<=70000000000000):gd (decide ((n+k)*1<=zc/\n+k<=zc)) o=o:=by rw[Qc (zbP h)];rfl
theorem zZX{b:JE}(h0:b≠[])(h:b.length<=60000000000000):zDd b=vec1 b:=by
 have e:(!List.isEmpty b)=true:=by cases b<;>simp_all
 rw[zOP,e];show gd (decide ((0+b.length)*1<=zc/\0+b.length<=zc)) _=_
 rw[zFd (by omega)]
 rfl
theorem low7:∀y:Nat,y<256->(BitVec.toNat (BitVec.ofInt (IntKind.bits IntKind.u8) (ofNat y) ||| BitVec.ofInt (IntKind.bits IntKind.u8) 128))=y % 128+128:=by decide +kernel
theorem zKP(n:Nat):wrapx IntKind.u8 (ofNat n)=ofNat (n % 256):=by
 rw[zI5];simp[IntKind.wrap,IntKind.bits,IntKind.signed]
theorem zDY(x:Int):wrapx IntKind.u64 x=ofNat (uw x):=by
 rw[zI5];simp[IntKind.wrap,IntKind.bits,IntKind.signed];unfold uw;omega
theorem zZY(n:Nat)(h:n<256):IntKind.wrap IntKind.u8 (ofNat n)=ofNat n:=by
 rw[←zI5,zKP,Nat.mod_eq_of_lt h]
theorem zUb(x:Nat):IntKind.wrap IntKind.u8 ↑(BitVec.toNat (BitVec.ofInt (IntKind.bits IntKind.u8) (wrapx IntKind.u8 (ofNat x)) ||| BitVec.ofInt (IntKind.bits IntKind.u8) 128))=ofNat (x % 128+128):=by
 rw[zKP,low7 _ (Nat.mod_lt _ (by decide)),show x % 256 % 128=x % 128 by omega]
 exact zZY _ (by omega)
theorem zZZ(x:Nat):Int.fdiv (ofNat x) (2 ^ min (Int.toNat 7) (IntKind.bits IntKind.u64))=ofNat (x / 128):=by
 show Int.fdiv (ofNat x) 128=_
 rw[Int.fdiv_eq_ediv_of_nonneg _ (by decide)]
 rfl
theorem zdi(k:Nat):∀(n x:Nat)(b:JE),x<128 ^ (k+1)->k<n->b.length+k<=60000000000000->zCT n (ofNat x) b=vec1 (b++bys (uv x)):=by
 induction k with
 |zero=>
  intro n x b j s hb;obtain⟨n,rfl⟩:∃m,n=m+1:=⟨n-1,by omega⟩
  have h:x<128:=by simpa using j
  rw[zGK,show decide (ofNat x>=128)=false from Qd (by rw[qr];omega),zj,zFd (by show b.length+1<=_;omega),zL9 h,zKP,Nat.mod_eq_of_lt (by omega)]
  rfl
 |succ k l=>
  intro n x b j s hb;obtain⟨n,rfl⟩:∃m,n=m+1:=⟨n-1,by omega⟩
  rw[zGK];by_cases h:x<128
  .rw[show decide (ofNat x>=128)=false from Qd (by rw[qr];omega),zj,zFd (by show b.length+1<=_;omega),zL9 h,zKP,Nat.mod_eq_of_lt (by omega)]
   rfl
  .rw[show decide (ofNat x>=128)=true from Qc (by rw[qr];omega),zAs,zFd (by show b.length+1<=_;omega),zZZ,zUb,zQu h]
   have g:x / 128<128 ^ (k+1):=by rw[Nat.pow_succ]at j;omega
   have e:=l n (x / 128) (b++bys [x % 128+128]) g (by omega) (by rw[QE];show b.length+1+k<=_;omega)
   rw[show bys ((x % 128+128)::uv (x / 128))=bys [x % 128+128]++bys (uv (x / 128))from rfl,←QP]
   exact e
theorem zSG{b:JE}(h0:b≠[])(h:b.length<=50000000000000)(x:Nat)(hx:x<18446744073709551616):zAj b (ofNat x)=vec1 (b++bys (uv x)):=by
 rw[zN0,zZX h0 (by omega),zH6]
 exact zdi 9 FUEL x b (QW hx (by decide)) (zD (by omega)) (by omega)
theorem zSH{b:JE}(h0:b≠[])(h:b.length<=50000000000000)(x:Int):zBq b x=some (.qf 1 (b++bys (uv (uw x)))):=by
 rw[zSU,zDY,zSG h0 h _ (zQv x),zH6]
theorem zeF{b:JE}(h0:b≠[])(h:b.length<=50000000000000)(s:JV)(g:s.length<=65536):zGT b s=some (.qd [.qf 1 (b++bys (tv s)),.int .i64 (ofNat 0)]):=by
 have hu:(uv s.length).length<=10:=zMa (by omega)
 rw[zN1,show decide (ofNat s.length > 65536)=false from Qd (by rw[qr];omega),zj,zDY,zG9 _ (by omega),zSG h0 h _ (by omega),zH6,zFd (by rw[QE,QG,QG];omega),QP,←zH7]
 rfl
theorem zLe{b:JE}(h0:b≠[])(h:b.length<=50000000000000)(s:JV)(g:s.length<=65536):zAq b s=some (.qf 1 (b++bys (tv s))):=by
 rw[zRI,zeF h0 h s g,zaM]
theorem zDG{b:JE}(h0:b≠[])(c:JE):b++c≠[]:=by
 cases b<;>simp_all
theorem zF0{s:JV}(g:s.length<=65536):(tv s).length<=65546:=by
 have hu:(uv s.length).length<=10:=zMa (by omega)
 unfold tv;rw[QE];omega
theorem zIw(x:Int):(uv (uw x)).length<=10:=zMa (zQv x)
theorem zZ0{b:JE}(h0:b≠[])(h:b.length<=40000000000000)(s:JV)(g:s.length<=65536)(x:Int):zBE b s x=some (.qf 1 (b++bys (tv s++uv (uw x)))):=by
 have:=zF0 g;rw[zNp,zLe h0 (by omega) s g,zDl,zSH (zDG h0 _) (by rw[QE,QG];omega),zDl,QP,←zH7]
theorem xor_zero(x:Nat)(h:x<18446744073709551616):(BitVec.toNat (BitVec.ofInt (IntKind.bits IntKind.u64) (ofNat x) ^^^ BitVec.ofInt (IntKind.bits IntKind.u64) (ofNat 0)))=x:=by
 show BitVec.toNat (BitVec.ofInt 64 (ofNat x) ^^^ BitVec.ofInt 64 0)=x
 rw[show BitVec.ofInt 64 0=0#64 from rfl,BitVec.xor_zero,BitVec.toNat_ofInt,qr]
 omega
theorem zUF{b:JE}(h0:b≠[])(h:b.length<=50000000000000)(x:Int)(hx:0<=x/\x<=1099511627776):zCg b x=some (.qf 1 (b++bys (uv (2*x.toNat)))):=by
 obtain⟨x,rfl⟩:=Int.eq_ofNat_of_zero_le hx.1;have e1:wrapx IntKind.u64 (wrapx IntKind.u64 (ofNat x)*2 ^ min (Int.toNat 1) (IntKind.bits IntKind.u64))=ofNat (2*x):=by
  rw[zDY,zDY,zG9 x (by omega)]
  show ofNat (uw (ofNat x*2))=_
  rw[show ofNat x*2=ofNat (2*x) by rw[qr,qr];omega,zG9 _ (by omega)]
 have e2:wrapx IntKind.u64 (Int.fdiv (ofNat x) (2 ^ min (Int.toNat 63) (IntKind.bits IntKind.i64)))=ofNat 0:=by
  show wrapx IntKind.u64 (Int.fdiv (ofNat x) 9223372036854775808)=_
  rw[Int.fdiv_eq_ediv_of_nonneg _ (by decide),show ofNat x / 9223372036854775808=0 from Int.ediv_eq_zero_of_lt (Ql x) (by rw[qr];omega)]
  rfl
 have e3:BitVec.toNat (BitVec.ofInt (IntKind.bits IntKind.u64) (ofNat (2*x)) ^^^ BitVec.ofInt (IntKind.bits IntKind.u64) (ofNat 0)) % Int.natAbs (2 ^ IntKind.bits IntKind.u64)=2*x:=by
  rw[xor_zero _ (by omega)]
  exact Nat.mod_eq_of_lt (show 2*x<18446744073709551616 by omega)
 have e1:wrapx IntKind.u64 (wrapx IntKind.u64 ↑x*2 ^ min (Int.toNat 1) (IntKind.bits IntKind.u64))=ofNat (2*x):=e1;have e2:wrapx IntKind.u64 (Int.fdiv ↑x (2 ^ min (Int.toNat 63) (IntKind.bits IntKind.i64)))=ofNat 0:=e2;rw[zOS,e1,e2,e3,zSG h0 h _ (by omega),zH6]
 rfl
theorem zeG{b:JE}(h0:b≠[])(h:b.length<=50000000000000)(x:Bool):zGW b x=some (.qf 1 (b++bys [x.toNat])):=by
 rw[zOg,zZX h0 (by omega)]
 cases x
 .rw[zj,zH6,zFd (by show b.length+1<=_;omega)];rfl
 .rw[zAs,zH6,zFd (by show b.length+1<=_;omega)];rfl
structure Rc where
 k:Int
 n:JV
 bd:Int
 a1:Int
 a2:Int
 a3:Int
 a4:Int
 at_:JE
 sk:Int
 sn:JV
 su:JV
 sb:Int
 sc:Int
 sd:Int
 si:JV
 s1:Int
 s2:Int
 s3:Int
 s4:Int
 sr:JE
 qV:Int
 tj:JV
 ti:Int
 bj:JV
 bi:Int
 m:JV
 qC:JV
 ic:Int
 nu:Int
 cd:Int
 on:Bool
def Rc.cells(r:Rc):JE:=[.int .i64 r.k,.str r.n,.int .i64 r.bd,.int .i64 r.a1,.int .i64 r.a2,.int .i64 r.a3,.int .i64 r.a4,.qf 2 r.at_,.int .i64 r.sk,.str r.sn,.str r.su,.int .i64 r.sb,.int .i64 r.sc,.int .i64 r.sd,.str r.si,.int .i64 r.s1,.int .i64 r.s2,.int .i64 r.s3,.int .i64 r.s4,.qf 6 r.sr,.int .i64 r.qV,.str r.tj,.int .i64 r.ti,.str r.bj,.int .i64 r.bi,.str r.m,.str r.qC,.int .u64 r.ic,.int .u64 r.nu,.int .i64 r.cd,.bool r.on]
def Rc.av(r:Rc):AV:=.agg r.cells
def atE:AV->JV
 |.agg [.str s,.str t]=>tv s++tv t
 |_=>[]
noncomputable def spT(r:Rc):JV:=match zBr r.sk r.sn r.su r.sb r.sc r.sd r.si r.s1 r.s2 r.s3 r.s4 r.sr r.qV with
 |some (.qd [.str x,_])=>x
 |_=>[]
noncomputable def z3(r:Rc):Nat->JV
 |0=>tv r.n
 |1=>uv (uw r.bd)
 |2=>uv (2*r.a1.toNat)++(uv (2*r.a2.toNat)++(uv (2*r.a3.toNat)++uv (2*r.a4.toNat)))
 |3=>uv r.at_.length++r.at_.flatMap atE
 |4=>tv (spT r)
 |5=>tv r.tj++uv (uw r.ti)
 |6=>tv r.bj++uv (uw r.bi)
 |7=>tv r.m
 |8=>tv r.qC
 |9=>uv (uw r.ic)
 |10=>uv (uw r.nu)
 |11=>uv (uw r.cd)
 |_=>[r.on.toNat]
def inA(x:Int):Prop:=0<=x/\x<=1099511627776
def zJm(v:AV):Prop:=∃s t,v=.agg [.str s,.str t]/\s.length<=65536/\t.length<=65536
def fOK(r:Rc):Nat->Prop
 |0=>r.n.length<=65536
 |2=>inA r.a1/\inA r.a2/\inA r.a3/\inA r.a4
 |3=>(∀v∈r.at_,zJm v)/\r.at_.length<=200
 |4=>∃x,zBr r.sk r.sn r.su r.sb r.sc r.sd r.si r.s1 r.s2 r.s3 r.s4 r.sr r.qV=some (.qd [.str x,.int .i64 (ofNat 0)])/\x.length<=65536
 |5=>r.tj.length<=65536
 |6=>r.bj.length<=65536
 |7=>r.m.length<=65536
 |8=>r.qC.length<=65536
 |9=>0<=r.ic/\r.ic<18446744073709551616
 |10=>0<=r.nu/\r.nu<18446744073709551616
 |_=>True
noncomputable abbrev pu(r:Rc)(b:JE)(f:Nat):Option (AV×Heap×Vecs):=some (.qf 1 (b++bys (z3 r f)),[(0,.cells false r.cells)],[])
theorem zW4{b:JE}(h0:b≠[])(h:b.length<=50000000000000)(x:Int)(hx:0<=x/\x<18446744073709551616):zAj b x=vec1 (b++bys (uv (uw x))):=by
 have e:x=ofNat (uw x):=by unfold uw;rw[qr];omega
 have:=zSG h0 h _ (zQv x)
 rwa [←e]at this
noncomputable def pF(b:JE)(r:Rc):Nat->Option (AV×Heap×Vecs)
 |0=>zFg b r.k r.n r.bd r.a1 r.a2 r.a3 r.a4 r.at_ r.sk r.sn r.su r.sb r.sc r.sd r.si r.s1 r.s2 r.s3 r.s4 r.sr r.qV r.tj r.ti r.bj r.bi r.m r.qC r.ic r.nu r.cd r.on
 |1=>zF7 b r.k r.n r.bd r.a1 r.a2 r.a3 r.a4 r.at_ r.sk r.sn r.su r.sb r.sc r.sd r.si r.s1 r.s2 r.s3 r.s4 r.sr r.qV r.tj r.ti r.bj r.bi r.m r.qC r.ic r.nu r.cd r.on
 |2=>zFj b r.k r.n r.bd r.a1 r.a2 r.a3 r.a4 r.at_ r.sk r.sn r.su r.sb r.sc r.sd r.si r.s1 r.s2 r.s3 r.s4 r.sr r.qV r.tj r.ti r.bj r.bi r.m r.qC r.ic r.nu r.cd r.on
 |3=>zGU b r.k r.n r.bd r.a1 r.a2 r.a3 r.a4 r.at_ r.sk r.sn r.su r.sb r.sc r.sd r.si r.s1 r.s2 r.s3 r.s4 r.sr r.qV r.tj r.ti r.bj r.bi r.m r.qC r.ic r.nu r.cd r.on
 |4=>zHG b r.k r.n r.bd r.a1 r.a2 r.a3 r.a4 r.at_ r.sk r.sn r.su r.sb r.sc r.sd r.si r.s1 r.s2 r.s3 r.s4 r.sr r.qV r.tj r.ti r.bj r.bi r.m r.qC r.ic r.nu r.cd r.on
 |5=>zFm b r.k r.n r.bd r.a1 r.a2 r.a3 r.a4 r.at_ r.sk r.sn r.su r.sb r.sc r.sd r.si r.s1 r.s2 r.s3 r.s4 r.sr r.qV r.tj r.ti r.bj r.bi r.m r.qC r.ic r.nu r.cd r.on
 |6=>zHI b r.k r.n r.bd r.a1 r.a2 r.a3 r.a4 r.at_ r.sk r.sn r.su r.sb r.sc r.sd r.si r.s1 r.s2 r.s3 r.s4 r.sr r.qV r.tj r.ti r.bj r.bi r.m r.qC r.ic r.nu r.cd r.on
 |7=>zFf b r.k r.n r.bd r.a1 r.a2 r.a3 r.a4 r.at_ r.sk r.sn r.su r.sb r.sc r.sd r.si r.s1 r.s2 r.s3 r.s4 r.sr r.qV r.tj r.ti r.bj r.bi r.m r.qC r.ic r.nu r.cd r.on
 |8=>zHE b r.k r.n r.bd r.a1 r.a2 r.a3 r.a4 r.at_ r.sk r.sn r.su r.sb r.sc r.sd r.si r.s1 r.s2 r.s3 r.s4 r.sr r.qV r.tj r.ti r.bj r.bi r.m r.qC r.ic r.nu r.cd r.on
 |9=>zFo b r.k r.n r.bd r.a1 r.a2 r.a3 r.a4 r.at_ r.sk r.sn r.su r.sb r.sc r.sd r.si r.s1 r.s2 r.s3 r.s4 r.sr r.qV r.tj r.ti r.bj r.bi r.m r.qC r.ic r.nu r.cd r.on
 |10=>zHK b r.k r.n r.bd r.a1 r.a2 r.a3 r.a4 r.at_ r.sk r.sn r.su r.sb r.sc r.sd r.si r.s1 r.s2 r.s3 r.s4 r.sr r.qV r.tj r.ti r.bj r.bi r.m r.qC r.ic r.nu r.cd r.on
 |11=>zIN b r.k r.n r.bd r.a1 r.a2 r.a3 r.a4 r.at_ r.sk r.sn r.su r.sb r.sc r.sd r.si r.s1 r.s2 r.s3 r.s4 r.sr r.qV r.tj r.ti r.bj r.bi r.m r.qC r.ic r.nu r.cd r.on
 |12=>zF5 b r.k r.n r.bd r.a1 r.a2 r.a3 r.a4 r.at_ r.sk r.sn r.su r.sb r.sc r.sd r.si r.s1 r.s2 r.s3 r.s4 r.sr r.qV r.tj r.ti r.bj r.bi r.m r.qC r.ic r.nu r.cd r.on
 |_=>none
section
variable{b:JE}(h0:b≠[])(h:b.length<=30000000000000)(r:Rc)
include h0 h
theorem p0(hr:fOK r 0):pF b r 0=pu r b 0:=by
 rw[pF,zME,zN2];show dK true [K.l 1] (zAq b r.n) _=_
 rw[zLe h0 (by omega) _ hr];rfl
theorem p7(hr:fOK r 7):pF b r 7=pu r b 7:=by
 rw[pF,zMD,zN6];show dK true [K.l 1] (zAq b r.m) _=_
 rw[zLe h0 (by omega) _ hr];rfl
theorem p8(hr:fOK r 8):pF b r 8=pu r b 8:=by
 rw[pF,zOR,zN7];show dK true [K.l 1] (zAq b r.qC) _=_
 rw[zLe h0 (by omega) _ hr];rfl
theorem p1(hr:fOK r 1):pF b r 1=pu r b 1:=by
 rw[pF,zNo,zN3];show dK true [K.l 1] (zBq b r.bd) _=_
 rw[zSH h0 (by omega)];rfl
theorem p11(hr:fOK r 11):pF b r 11=pu r b 11:=by
 rw[pF,zP5,zOa];show dK true [K.l 1] (zBq b r.cd) _=_
 rw[zSH h0 (by omega)];rfl
theorem p9(hr:fOK r 9):pF b r 9=pu r b 9:=by
 rw[pF,zMM,zN8];show dD true [.v (.c (AV.sym 0)),.vec 0 1] (zAj b r.ic) _=_
 rw[zW4 h0 (by omega) _ hr];rfl
theorem p10(hr:fOK r 10):pF b r 10=pu r b 10:=by
 rw[pF,zOY,zN9];show dD true [.v (.c (AV.sym 0)),.vec 0 1] (zAj b r.nu) _=_
 rw[zW4 h0 (by omega) _ hr];rfl
theorem p5(hr:fOK r 5):pF b r 5=pu r b 5:=by
 rw[pF,zML,zN4];show dK true [K.l 1] (zBE b r.tj r.ti) _=_
 rw[zZ0 h0 (by omega) _ hr];rfl
theorem p6(hr:fOK r 6):pF b r 6=pu r b 6:=by
 rw[pF,zOX,zN5];show dK true [K.l 1] (zBE b r.bj r.bi) _=_
 rw[zZ0 h0 (by omega) _ hr];rfl
theorem p12(hr:fOK r 12):pF b r 12=pu r b 12:=by
 rw[pF,zNn,zeG h0 (by omega)];rfl
theorem p4(hr:fOK r 4):pF b r 4=pu r b 4:=by
 obtain⟨x,g,hl⟩:=hr;have e:spT r=x:=by unfold spT;rw[g]
 rw[pF,zOT,g,zcP,zLe h0 (by omega) x hl,zDl]
 unfold pu z3;rw[e];rfl
theorem p2(hr:fOK r 2):pF b r 2=pu r b 2:=by
 obtain⟨h1,h2,h3,h4⟩:=hr;have l:∀x:Int,inA x->(uv (2*x.toNat)).length<=10:=λx g=>zMa (by unfold inA at g;omega)
 have j:=l _ h1;have s:=l _ h2;have z:=l _ h3;rw[pF,zMF,zUF h0 (by omega) _ h1,zDl,zUF (zDG h0 _) (by rw[QE,QG];omega) _ h2,zDl,zUF (zDG (zDG h0 _) _) (by simp only[QE,QG];omega) _ h3,zDl,zUF (zDG (zDG (zDG h0 _) _) _) (by simp only[QE,QG];omega) _ h4,zDl,zKC]
 show some (AV.qf 1 _,_,_)=_
 unfold pu z3;simp only[Qu,QP];rfl
end
theorem zeH{v:AV}(h:zJm v):(atE v).length<=131092:=by
 obtain⟨s,t,rfl,h1,h2⟩:=h;have:=zF0 h1;have:=zF0 h2;show(tv s++tv t).length<=_
 rw[QE];omega
theorem zdj{l:JE}(h:∀v∈l,zJm v):(l.flatMap atE).length<=l.length*131092:=by
 induction l with
 |nil=>exact QB _
 |cons a l g=>
  rw[List.flatMap_cons,QE,QL];have:=g λv hv=>h v (.tail _ hv)
  have:=zeH (h a (.head _));omega
theorem zdk(r:Rc)(l:JE)(hl:∀v∈l,zJm v)(A:l.length<=200):∀(f i:Nat)(b:JE),i<=l.length->l.length-i<f->b≠[]->b.length+(l.length-i)*131092<=30000100000000->zCU f b l (ofNat l.length) (ofNat i) r.k r.n r.bd r.a1 r.a2 r.a3 r.a4 r.at_ r.sk r.sn r.su r.sb r.sc r.sd r.si r.s1 r.s2 r.s3 r.s4 r.sr r.qV r.tj r.ti r.bj r.bi r.m r.qC r.ic r.nu r.cd r.on=some (.qf 1 (b++bys ((l.drop i).flatMap atE)),[(0,.cells false r.cells)],[]):=by
 intro f
 induction f with
 |zero=>intro i b _ h;omega
 |succ f x=>
  intro i b hi z h0 hb;rw[zLL];by_cases g:i<l.length
  .obtain⟨s,t,j,h1,h2⟩:=hl _ (Qg g);have B:=zF0 h1;have C:=zF0 h2;rw[show decide (ofNat i<ofNat l.length)=true from Qc (Int.ofNat_lt.2 g),zAs,(zA2 g).trans (congrArg some j),zcN,zLe h0 (by omega) _ h1,zDl,zLe (zDG h0 _) (by rw[QE,QG];omega) _ h2,zDl,zm (by omega),x (i+1) _ g (by omega) (zDG (zDG h0 _) _) (by simp only[QE,QG];omega),Qo g,List.flatMap_cons,j]
   show some (AV.qf 1 _,_,_)=some (AV.qf 1 (b++bys ((tv s++tv t)++_)),_,_)
   simp only[Qu,QP]
  .have:i=l.length:=by omega
   subst this;rw[show decide (ofNat l.length<ofNat l.length)=false from Qd (Int.lt_irrefl _),zj,List.drop_length]
   show _=some (AV.qf 1 (b++[]),_,_)
   rw[Qk];rfl
theorem p3{b:JE}(h0:b≠[])(h:b.length<=30000000000000)(r:Rc)(hr:fOK r 3):pF b r 3=pu r b 3:=by
 obtain⟨h1,h2⟩:=hr;have:=zIw (ofNat r.at_.length);rw[pF,zOb,zSH h0 (by omega),zDl,zdk r r.at_ h1 h2 FUEL 0 _ (QN _) (zD (by omega)) (zDG h0 _) (by rw[QE,QG];omega),List.drop_zero,zG9 _ (by omega),QP,←zH7]
 rfl
theorem zW5(r:Rc)(f:Nat)(h:fOK r f):(z3 r f).length<=27000000:=by
 have l:∀x:Int,inA x->(uv (2*x.toNat)).length<=10:=λx g=>zMa (by unfold inA at g;omega)
 unfold z3;split<;>unfold fOK at h<;>simp only at h
 .have:=zF0 h;omega
 .have:=zIw r.bd;omega
 .have:=l _ h.1;have:=l _ h.2.1;have:=l _ h.2.2.1;have:=l _ h.2.2.2;simp only[QE];omega
 .have:=zdj h.1;have:=zMa (x:=r.at_.length) (by have:=h.2;omega)
  have:=h.2;simp only[QE];omega
 .obtain⟨x,g,hl⟩:=h;have e:spT r=x:=by unfold spT;rw[g]
  rw[e];have:=zF0 hl;omega
 .have:=zF0 h;have:=zIw r.ti;simp only[QE];omega
 .have:=zF0 h;have:=zIw r.bi;simp only[QE];omega
 .have:=zF0 h;omega
 .have:=zF0 h;omega
 .have:=zIw r.ic;omega
 .have:=zIw r.nu;omega
 .have:=zIw r.cd;omega
 .show 1<=_;omega
theorem zeI{b:JE}(h0:b≠[])(h:b.length<=30000000000000)(r:Rc){f:Nat}(g:f<=12)(hr:fOK r f):pF b r f=pu r b f:=by
 rcases(by omega:f=0\/f=1\/f=2\/f=3\/f=4\/f=5\/f=6\/f=7\/f=8\/f=9\/f=10\/f=11\/f=12)with rfl|rfl|rfl|rfl|rfl|rfl|rfl|rfl|rfl|rfl|rfl|rfl|rfl
 .exact p0 h0 h r hr
 .exact p1 h0 h r hr
 .exact p2 h0 h r hr
 .exact p3 h0 h r hr
 .exact p4 h0 h r hr
 .exact p5 h0 h r hr
 .exact p6 h0 h r hr
 .exact p7 h0 h r hr
 .exact p8 h0 h r hr
 .exact p9 h0 h r hr
 .exact p10 h0 h r hr
 .exact p11 h0 h r hr
 .exact p12 h0 h r hr
end Go.Proofs.YtjfcepbllmdfcaaGreatDoor.record
namespace Go.Proofs.YtjfcepbllmdfcaaGreatDoor.record
open Go Go.Sy
variable[MX]
abbrev kI(l:JV):JE:=l.map λf=>AV.int .i64 (ofNat f)
noncomputable abbrev zIX(r:Rc)(l:JV):JV:=l.flatMap (z3 r)
theorem l23(g:Nat)(t36:JE)(t37 t38:Int)(r:Rc)(l:JV)(hl:∀f∈l,f<=12/\fOK r f)(H:l.length<=13):∀(n i:Nat)(b:JE),i<=l.length->l.length-i<n->b≠[]->b.length+(l.length-i)*27000000<=30000000000000 →
  zr g n b t36 t37 t38 (kI l) (ofNat l.length) (ofNat i) r.k r.n r.bd r.a1 r.a2 r.a3 r.a4 r.at_ r.sk r.sn r.su r.sb r.sc r.sd r.si r.s1 r.s2 r.s3 r.s4 r.sr r.qV r.tj r.ti r.bj r.bi r.m r.qC r.ic r.nu r.cd r.on=zAp g (b++bys (zIX r (l.drop i))) t36 t37 (wrapx IntKind.i64 (t38+1)):=by
 intro n
 induction n with
 |zero=>intro i b _ h;omega
 |succ n D=>
  intro i b hi F h0 hb;rw[zMN];by_cases j:i<l.length
  .obtain⟨s,x⟩:=hl _ (Qg j);have C:ixN (kI l) (ofNat i)=some (.int .i64 (ofNat l[i])):=by
    have z:i<(kI l).length:=by rw[QG];exact j
    rw[zA2 z,List.getElem_map]
   have E:=zW5 r _ x;have B:zr g n (b++bys (z3 r l[i])) t36 t37 t38 (kI l) (ofNat l.length) (wrapx IntKind.i64 (ofNat i+1)) r.k r.n r.bd r.a1 r.a2 r.a3 r.a4 r.at_ r.sk r.sn r.su r.sb r.sc r.sd r.si r.s1 r.s2 r.s3 r.s4 r.sr r.qV r.tj r.ti r.bj r.bi r.m r.qC r.ic r.nu r.cd r.on=zAp g (b++bys (zIX r (l.drop i))) t36 t37 (wrapx IntKind.i64 (t38+1)):=by
    rw[zm (by omega),D (i+1) _ j (by omega) (zDG h0 _) (by simp only[QE,QG];omega),Qo j]
    show _=zAp g (b++bys (z3 r l[i]++zIX r (l.drop (i+1)))) _ _ _
    rw[zH7,QP]
   rw[show decide (ofNat i<ofNat l.length)=true from Qc (Int.ofNat_lt.2 j),zAs,C,zTx]
   generalize l[i]=f at s x B;have A:=zeI h0 (by omega) r s x
   rcases(by omega:f=0\/f=1\/f=2\/f=3\/f=4\/f=5\/f=6\/f=7\/f=8\/f=9\/f=10\/f=11\/f=12)with rfl|rfl|rfl|rfl|rfl|rfl|rfl|rfl|rfl|rfl|rfl|rfl|rfl
   all_goals
    rw[pF]at A;show dD true _ _ _=_
    rw[A];exact B
  .have:i=l.length:=by omega
   subst this;rw[show decide (ofNat l.length<ofNat l.length)=false from Qd (Int.lt_irrefl _),zj,List.drop_length]
   show _=zAp g (b++[]) _ _ _
   rw[Qk]
def hasM(k:Int):JV:=if k=1 then[10]else if k=2 then[0,1,2]else if k=3 then[0,2,3]else if k=4 then[0,12]else if k=8 then[0,12]else if k=5 then[4]else if k=6 then[0]else if k=9 then[0]else if k=15 then[0]else if k=7 then[0,2,11]else if k=10 then[5,7,8,9]else if k=11 then[5,6,9,11]else if k=12 then[0,10]else if k=13 then[5,9]else if k=16 then[0,5,9]else if k=14 then[0,5,9,10,11]else[]
def zgr:JV->AV
 |[]=>.qa
 |l=>.qf 1 (kI l)
theorem nbq{k c:Int}(h:¬k=c):(k==c)=false:=by simpa using h
theorem zQw{k:Int}(h1:¬k=1)(h2:¬k=2)(h3:¬k=3)(h4:¬k=4)(h8:¬k=8)(E:¬k=5)(B:¬k=6)(C:¬k=9)(l:¬k=15)(D:¬k=7)(j:¬k=10)(z:¬k=11)(s:¬k=12)(g:¬k=13)(A:¬k=16)(x:¬k=14):hasM k=[]:=by
 unfold hasM;rw[if_neg h1,if_neg h2,if_neg h3,if_neg h4,if_neg h8,if_neg E,if_neg B,if_neg C,if_neg l,if_neg D,if_neg j,if_neg z,if_neg s,if_neg g,if_neg A,if_neg x]
theorem zYa(k:Int):zBO k=some (zgr (hasM k)):=by
 by_cases h1:k=1
 .subst h1;rw[zK];first|rfl|(show zB _ _=_;rw[zw];first|rfl|(show zy _ _=_;rw[zv];rfl))
 by_cases h2:k=2
 .subst h2;rw[zK];first|rfl|(show zB _ _=_;rw[zw];first|rfl|(show zy _ _=_;rw[zv];rfl))
 by_cases h3:k=3
 .subst h3;rw[zK];first|rfl|(show zB _ _=_;rw[zw];first|rfl|(show zy _ _=_;rw[zv];rfl))
 by_cases h4:k=4
 .subst h4;rw[zK];first|rfl|(show zB _ _=_;rw[zw];first|rfl|(show zy _ _=_;rw[zv];rfl))
 by_cases h8:k=8
 .subst h8;rw[zK];first|rfl|(show zB _ _=_;rw[zw];first|rfl|(show zy _ _=_;rw[zv];rfl))
 by_cases E:k=5
 .subst E;rw[zK];first|rfl|(show zB _ _=_;rw[zw];first|rfl|(show zy _ _=_;rw[zv];rfl))
 by_cases B:k=6
 .subst B;rw[zK];first|rfl|(show zB _ _=_;rw[zw];first|rfl|(show zy _ _=_;rw[zv];rfl))
 by_cases C:k=9
 .subst C;rw[zK];first|rfl|(show zB _ _=_;rw[zw];first|rfl|(show zy _ _=_;rw[zv];rfl))
 by_cases l:k=15
 .subst l;rw[zK];first|rfl|(show zB _ _=_;rw[zw];first|rfl|(show zy _ _=_;rw[zv];rfl))
 by_cases D:k=7
 .subst D;rw[zK];first|rfl|(show zB _ _=_;rw[zw];first|rfl|(show zy _ _=_;rw[zv];rfl))
 by_cases j:k=10
 .subst j;rw[zK];first|rfl|(show zB _ _=_;rw[zw];first|rfl|(show zy _ _=_;rw[zv];rfl))
 by_cases z:k=11
 .subst z;rw[zK];first|rfl|(show zB _ _=_;rw[zw];first|rfl|(show zy _ _=_;rw[zv];rfl))
 by_cases s:k=12
 .subst s;rw[zK];first|rfl|(show zB _ _=_;rw[zw];first|rfl|(show zy _ _=_;rw[zv];rfl))
 by_cases g:k=13
 .subst g;rw[zK];first|rfl|(show zB _ _=_;rw[zw];first|rfl|(show zy _ _=_;rw[zv];rfl))
 by_cases A:k=16
 .subst A;rw[zK];first|rfl|(show zB _ _=_;rw[zw];first|rfl|(show zy _ _=_;rw[zv];rfl))
 by_cases x:k=14
 .subst x;rw[zK];first|rfl|(show zB _ _=_;rw[zw];first|rfl|(show zy _ _=_;rw[zv];rfl))
 rw[zQw h1 h2 h3 h4 h8 E B C l D j z s g A x,zK,nbq h1,zj,nbq h2,zj,nbq h3,zj,nbq h4,zj,nbq h8,zw,zj,nbq E,zj,nbq B,zj,nbq C,zj,nbq l,zv,zj,nbq D,zj,nbq j,zj,nbq z,zj,nbq s,zj,nbq g,zj,nbq A,zj,nbq x,zj];rfl
theorem zLf(k:Int):(∀f∈hasM k,f<=12)/\(hasM k).length<=13:=by
 by_cases h1:k=1
 .subst h1;decide
 by_cases h2:k=2
 .subst h2;decide
 by_cases h3:k=3
 .subst h3;decide
 by_cases h4:k=4
 .subst h4;decide
 by_cases h8:k=8
 .subst h8;decide
 by_cases C:k=5
 .subst C;decide
 by_cases D:k=6
 .subst D;decide
 by_cases E:k=9
 .subst E;decide
 by_cases x:k=15
 .subst x;decide
 by_cases B:k=7
 .subst B;decide
 by_cases l:k=10
 .subst l;decide
 by_cases z:k=11
 .subst z;decide
 by_cases s:k=12
 .subst s;decide
 by_cases g:k=13
 .subst g;decide
 by_cases A:k=16
 .subst A;decide
 by_cases j:k=14
 .subst j;decide
 rw[zQw h1 h2 h3 h4 h8 C D E x B l z s g A j];decide
theorem zSI{k:Int}(h:hasM k≠[]):zBO k=some (.qf 1 (kI (hasM k))):=by
 rw[zYa];cases e:hasM k with
 |nil=>exact absurd e h
 |cons a l=>rfl
def zUG(r:Rc):Prop:=hasM r.k≠[]/\∀f∈hasM r.k,fOK r f
noncomputable def zJX(r:Rc):JV:=uv (uw r.k)++zIX r (hasM r.k)
theorem za5(r:Rc)(l:JV)(h:∀f∈l,fOK r f):(zIX r l).length<=l.length*27000000:=by
 induction l with
 |nil=>exact QB _
 |cons a l g=>
  have:=g λv hv=>h v (.tail _ hv)
  have:=zW5 r a (h a (.head _));show(z3 r a++zIX r l).length<=_
  rw[QE,QL];omega
theorem zVK{r:Rc}(h:zUG r):(zJX r).length<=400000000:=by
 have:=za5 r _ h.2;have:=(zLf r.k).2;have:=zIw r.k;unfold zJX;rw[QE];omega
noncomputable abbrev zJn(l:List Rc):JV:=l.flatMap zJX
theorem l25(g:List Rc)(hl:∀r∈g,zUG r)(E:g.length<=600):∀(n i:Nat)(b:JE),i<=g.length->g.length-i<n->b≠[]->b.length+(g.length-i)*400000000<=20000000000000 →
  zAp n b (g.map Rc.av) (ofNat g.length) (ofNat i)=some (.qd [.qf 1 (b++bys (zJn (g.drop i))),.int .i64 (ofNat 0)]):=by
 intro n
 induction n with
 |zero=>intro i b _ h;omega
 |succ n D=>
  intro i b hi z h0 hb;rw[zMO];by_cases j:i<g.length
  .have hr:=hl _ (Qg j);have B:ixN (g.map Rc.av) (ofNat i)=some g[i].av:=by
    have s:i<(g.map Rc.av).length:=by rw[QG];exact j
    rw[zA2 s,List.getElem_map]
   have A:=zVK hr;have x:=D (i+1) (b++bys (zJX g[i])) j (by omega) (zDG h0 _) (by simp only[QE,QG];omega)
   have C:zJn (g.drop i)=zJX g[i]++zJn (g.drop (i+1)):=by rw[Qo j];rfl
   rw[show decide (ofNat i<ofNat g.length)=true from Qc (Int.ofNat_lt.2 j),zAs,B,C]
   generalize g[i]=r at hr A x;show dK true [K.l 1] (zBq b r.k) _=_
   have:=zIw r.k;have h2:=zLf r.k;rw[zSH h0 (by omega),zDl,zSI hr.1,zDl]
   have e:=l23 n (g.map Rc.av) (ofNat g.length) (ofNat i) r (hasM r.k) (λf z=>⟨h2.1 f z,hr.2 f z⟩) h2.2 FUEL 0 (b++bys (uv (uw r.k))) (QN _) (zD (by omega)) (zDG h0 _) (by simp only[QE,QG];omega)
   rw[List.drop_zero,zm (by omega),QP,←zH7]at e
   have e2:ofNat (kI (hasM r.k)).length=ofNat (hasM r.k).length:=by rw[QG]
   rw[e2];refine e.trans ?_
   refine x.trans ?_
   rw[zH7 (zJX r),QP]
  .have:i=g.length:=by omega
   subst this;rw[show decide (ofNat g.length<ofNat g.length)=false from Qd (Int.lt_irrefl _),zj,List.drop_length]
   show _=some (AV.qd [AV.qf 1 (b++[]),_])
   rw[Qk]
abbrev zTA(m:Nat)(s:JV)(v:AV):Prop:=∃b,v=.bool b/\(b=true->s.length<=m)
theorem za6(c:Nat):Wp (zCM (ofNat c)) isB:=(zJu c).mono λv ⟨b,e,_⟩=>⟨b,e,trivial⟩
theorem zWs(s:JV):Wp (zJJ s) (zTA 24 s):=by
 have loop:∀(n i:Nat),i<=s.length->s.length-i<n->s.length<=24->Wp (zED n (ofNat (bytes s).length) (ofNat i) (bytes s)) (zTA 24 s):=by
  intro n
  induction n with
  |zero=>intro i _ h;omega
  |succ n x=>
   intro i hi z j;rw[zOF,QG];refine Wp.lt (λh=>zKv h (zV4 (zPA h) ?_)) λ_=>Wb ⟨_,rfl,λ_=>j⟩
   have next:∀b,Wp (zBu n (ofNat s.length) (ofNat i) b (bytes s)) (zTA 24 s):=λb=>by
    rw[zOE];refine Wa (λ_=>Wb ⟨_,rfl,λ_=>j⟩) λ_=>?_
    rw[zm (by omega)]
    have:=x (i+1) h (by omega) j
    rwa [QG]at this
   repeat' first|refine Wc (λ_=>?_) (λ_=>?_)|refine Wa (λ_=>?_) (λ_=>?_)|refine qk_b (zKx _) ?_|exact next _
 rw[zRA];have g:∀b,(b=true\/s.length<=24)->Wp (zCd s b) (zTA 24 s):=λb hb=>by
  rw[zOH];refine Wa (λ_=>Wb ⟨_,rfl,λh=>by cases h⟩) λh=>?_
  rw[zOG];refine loop _ 0 (QN _) (zD ?_) ?_<;>rcases hb with hb|hb<;>first|omega|(rw[hb]at h;cases h)
 refine Wc (λ_=>g _ (.inl rfl)) λh1=>Wc (λ_=>g _ (.inl rfl)) λh2=>?_
 rw[qr]at h1 h2;have hl:0<s.length:=by omega
 have l:ixN s 0=some s[0]:=zA2 hl;rw[l];refine Wc (λ_=>g _ (.inl rfl)) λh1=>g _ (.inr (by omega))
theorem zWt(s:JV):Wp (zJK s) (zTA 32 s):=by
 have loop:∀(n i:Nat),i<=s.length->s.length-i<n->s.length<=32->Wp (zEE n (ofNat (bytes s).length) (ofNat i) (bytes s)) (zTA 32 s):=by
  intro n
  induction n with
  |zero=>intro i _ h;omega
  |succ n j=>
   intro i hi l g;rw[zOI,QG];refine Wp.lt (λh=>zKv h (zV4 (zPA h) (zAn (za6 _) λb _=>Wa (λ_=>Wb ⟨_,rfl,λ_=>g⟩) λ_=>?_))) λ_=>Wb ⟨_,rfl,λ_=>g⟩
   rw[zm (by omega)]
   have:=j (i+1) h (by omega) g
   rwa [QG]at this
 rw[zRD];refine Wc (λ_=>Wb ⟨_,rfl,λh=>by cases h⟩) λh1=>Wc (λ_=>Wb ⟨_,rfl,λh=>by cases h⟩) λh2=>?_
 rw[qr]at h1 h2;rw[zOJ];exact loop _ 0 (QN _) (zD (by omega)) (by omega)
abbrev isA(es:JE)(v:AV):Prop:=∃n,v=.int .i64 n/\(n=0->(∀e∈es,zJm e)/\es.length<=16)
theorem zYb(es:JE)(h:Ats es):Wp (zIy es) (isA es):=by
 have bad:isA es (.int .i64 (ofNat 2)):=⟨_,rfl,λh=>by cases h⟩
 have loop:es.length<=16->∀(n i:Nat),i<=es.length->es.length-i<n->(∀j (l:j<es.length),j<i->zJm es[j])->Wp (zFA n es es (ofNat es.length) (ofNat i)) (isA es):=by
  intro z n
  induction n with
  |zero=>intro i _ h;omega
  |succ n H=>
   intro i hi J D;rw[zPL];have x:∀b,(b=true\/∀h:i<es.length,zJm es[i])->i<es.length->Wp (zCG n es es (ofNat es.length) (ofNat i) b) (isA es):=λb hb g=>by
    rw[zPK];refine Wa (λ_=>Wb bad) λC=>?_
    rw[zm (by have:=h.2;omega)]
    refine H (i+1) g (by omega) λj l F=>?_
    rcases Nat.lt_or_ge j i with q|q
    .exact D j l q
    .obtain rfl:j=i:=by omega
     rcases hb with hb|hb
     .rw[hb]at C;cases C
     .exact hb l
   refine Wp.lt (λg=>h.at g λs t A=>zAn (zWs s) λb hb=>Wa (λ_=>x _ (.inl rfl) g) λh1=>zAn (zWt t) λI we=>Wa (λ_=>x _ (.inl rfl) g) λh2=>?_) λE=>Wb ⟨_,rfl,λ_=>⟨λe A=>?_,z⟩⟩
   .have ok:∀h:i<es.length,zJm es[i]:=λ_=>⟨s,t,A,by have:=hb (by simpa using h1);omega,by have:=we (by simpa using h2);omega⟩
    refine Wc (λh0=>?_) λ_=>x _ (.inr ok) g
    rw[qr]at h0;have h0:0<i:=by omega
    rw[zCq h0 (by have:=h.2;omega)]
    exact h.at (by omega) λs2 t2 _=>x _ (.inr ok) g
   .obtain⟨j,l,rfl⟩:=List.getElem_of_mem A;exact D j l (by omega)
 rw[zSR];exact Wc (λ_=>Wb bad) λB=>loop (by rw[qr]at B;omega) _ 0 (QN _) (zD (by have:=h.2;omega)) λj _ h=>absurd h (Nat.not_lt_zero _)
abbrev zgs(i:Int)(v:AV):Prop:=∃a b,v=.qd [.str a,.int .i64 b]/\(b=0->0<=i/\i<=1073741824)
theorem zSJ(s:JV)(i:Int):Wp (zIA s i) (zgs i):=by
 rw[zST];obtain⟨_,e,b,rfl,_⟩:=zBn s;refine qk_b e (Wa (λ_=>Wb ⟨_,_,rfl,λh=>by cases h⟩) λhb=>Wc (λ_=>Wb ⟨_,_,rfl,λh=>by cases h⟩) λh0=>Wc (λ_=>Wb ⟨_,_,rfl,λh=>by cases h⟩) λh1=>?_)
 have hl:=zVw (show zq s=some (.bool true) by rw[e];simpa using hb)
 obtain⟨i,rfl⟩:=Int.eq_ofNat_of_zero_le (show 0<=i by omega)
 have hi:i<100:=by omega
 have e3:zC3 (ofNat i)=some (.str (zRU i)):=by
  show(match Nat.blt i 100 with|true=>some (AV.str (zRU i))|false=>none)=_
  rw[show Nat.blt i 100=true by rw[Qi];exact hi]
 have hd:(zRU i).length<=100:=by
  have:∀i,i<100->(zRU i).length<=100:=by decide +kernel
  exact this i hi
 rw[zPO];have m0:zh=9223372036854775807:=rfl;refine We ?_ (qk_s e3 (We ?_ (Wb ⟨_,_,rfl,λ_=>⟨Ql _,by omega⟩⟩)))
 all_goals simp only[QE,QL,Qp]
 all_goals omega
abbrev isQ(P:Prop)(v:AV):Prop:=∃b,v=.bool b/\(b=true->P)
theorem i0{x:Int}(h:(x==0)=true):x=0:=by simpa using h
theorem zVL(s:JV)(i:Int):Wp (zCI s i) (isQ (0<=i/\i<=1073741824)):=by
 rw[zPP];exact zWV (R:=λ_ n=>n=0->0<=i/\i<=1073741824) (zSJ s i) λ_ _ h=>Wb ⟨_,rfl,λg=>h (i0 g)⟩
theorem za7(s:JV)(h:s.length<=1000):∃n v b,zJb s=some (.qd [.int .i64 n,v])/\zYj v=some b:=by
 have e:Nat.ble s.length 281474976710656=true:=by rw[Qr];omega
 unfold zJb zHD zYo;simp only[e];cases hp:Lib.atoiAll (s.map UInt8.ofNat)with
 |ok v=>exact⟨_,_,_,rfl,rfl⟩
 |range=>exact⟨_,_,_,rfl,rfl⟩
 |_=>exact⟨_,_,_,rfl,rfl⟩
theorem zZ1(s:JV)(h:s.length<=1000):Wp (zD4 s) λv=>∃a b n,v=.qd [.agg [.str a,.int .i64 b],.int .i64 n]:=by
 rw[zNY];have hc:∃a b c,zHx s [46]=some (.qd [.str a,.str b,.bool c])/\b.length<=s.length:=by
  refine⟨(cut1 46 s).1,(cut1 46 s).2.1,(cut1 46 s).2.2,?_,(zVC 46 s).2⟩
  show(match(Nat.blt s.length 4294967281&&Nat.blt 46 256)with|true=>some (AV.qd [.str (cut1 46 s).1,.str (cut1 46 s).2.1,.bool (cut1 46 s).2.2])|false=>none)=_
  rw[show Nat.blt s.length 4294967281=true by rw[Qi];omega]
  rfl
 obtain⟨a,b,c,e,h2⟩:=hc;obtain⟨n,v,x,e2,e3⟩:=za7 b (by omega)
 refine zBM e (zWT e2 (zWV (R:=λ_ _=>True) ((zSJ a n).mono λv ⟨a,b,e,_⟩=>⟨a,b,e,trivial⟩) λs2 g _=>?_))
 rw[e3];exact Wa (λ_=>Wb ⟨_,_,_,rfl⟩) λ_=>Wa (λ_=>Wb ⟨_,_,_,rfl⟩) λ_=>Wa (λ_=>Wb ⟨_,_,_,rfl⟩) λ_=>Wb ⟨_,_,_,rfl⟩
def i64(x:Int):Prop:=-9223372036854775808<=x/\x<=9223372036854775807
def u64(x:Int):Prop:=0<=x/\x<18446744073709551616
structure Ty(r:Rc):Prop where
 k:i64 r.k
 bd:i64 r.bd
 ti:i64 r.ti
 bi:i64 r.bi
 cd:i64 r.cd
 ic:u64 r.ic
 nu:u64 r.nu
 n:r.n.length<=200
 m:r.m.length<=200
 qC:r.qC.length<=200
 tj:r.tj.length<=200
 bj:r.bj.length<=200
 at_:Ats r.at_
 al:r.at_.length<=200
 sr:NdB r.sr
structure TyC(r:Rc):Prop where
 at_:Ats r.at_
 sr:NdB r.sr
 qC:r.qC.length<=1000
theorem Ty.c{r:Rc}(h:Ty r):TyC r:=⟨h.at_,h.sr,by have:=h.qC;omega⟩
def zF(r:Rc):Nat->Prop
 |0=>r.n=[]
 |1=>r.bd=0
 |2=>r.a1=0/\r.a2=0/\r.a3=0/\r.a4=0
 |3=>r.at_=[]
 |4=>r.sk=0/\r.sn=[]/\r.su=[]/\r.sb=0/\r.sc=0/\r.sd=0/\r.si=[]/\(r.s1=0/\r.s2=0/\r.s3=0/\r.s4=0)/\r.sr=[]/\r.qV=0
 |5=>r.tj=[]/\r.ti=0
 |6=>r.bj=[]/\r.bi=0
 |7=>r.m=[]
 |8=>r.qC=[]
 |9=>r.ic=0
 |10=>r.nu=0
 |11=>r.cd=0
 |_=>r.on=false
def kF(r:Rc):Nat->Prop
 |1=>0<=r.bd/\r.bd<=1073741824
 |2=>okA r.a1 r.a2 r.a3 r.a4
 |3=>(∀e∈r.at_,zJm e)/\r.at_.length<=16
 |4=>zAt r.sk r.sn r.su r.sb r.sc r.sd r.si r.s1 r.s2 r.s3 r.s4 r.sr r.qV=some (.int .i64 0)
 |5=>0<=r.ti/\r.ti<=1073741824
 |6=>0<=r.bi/\r.bi<=1073741824
 |11=>0<=r.cd/\r.cd<=1073741824
 |_=>True
theorem zeJ(r:Rc):Wp (zFz r.sk r.sn r.su r.sb r.sc r.sd r.si r.s1 r.s2 r.s3 r.s4 r.sr r.qV) (isQ (zF r 4)):=by
 rw[zPJ];have no:Wp (some (AV.bool false)) (isQ (zF r 4)):=Wb ⟨_,rfl,λh=>by cases h⟩
 refine Wa (λh1=>Wa (λh2=>Wa (λh3=>Wa (λh4=>Wa (λx=>Wa (λj=>Wa (λs=>Wa (λh8=>Wa (λl=>Wb ⟨_,rfl,λg=>?_⟩) λ_=>no) λ_=>no) λ_=>no) λ_=>no) λ_=>no) λ_=>no) λ_=>no) λ_=>no) λ_=>no
 simp only[QA]at h8;exact⟨i0 h1,zAJ h2,zAJ h3,i0 h4,i0 x,i0 j,zAJ s,⟨i0 h8.1,i0 h8.2.1,i0 h8.2.2.1,i0 h8.2.2.2⟩,len0 l,i0 g⟩
theorem zdl(r:Rc)(f:Nat)(g:f<=12):Wp (zJa r.k r.n r.bd r.a1 r.a2 r.a3 r.a4 r.at_ r.sk r.sn r.su r.sb r.sc r.sd r.si r.s1 r.s2 r.s3 r.s4 r.sr r.qV r.tj r.ti r.bj r.bi r.m r.qC r.ic r.nu r.cd r.on (ofNat f)) (isQ (zF r f)):=by
 rw[zQC];rcases(by omega:f=0\/f=1\/f=2\/f=3\/f=4\/f=5\/f=6\/f=7\/f=8\/f=9\/f=10\/f=11\/f=12)with rfl|rfl|rfl|rfl|rfl|rfl|rfl|rfl|rfl|rfl|rfl|rfl|rfl
 .show Wp (some (AV.bool (zi r.n []))) _
  exact Wb ⟨_,rfl,λh=>zAJ h⟩
 .show Wp (some (AV.bool (r.bd==0))) _
  exact Wb ⟨_,rfl,λh=>i0 h⟩
 .show Wp (some (AV.bool (r.a1==0&&(r.a2==0&&(r.a3==0&&r.a4==0))))) _
  exact Wb ⟨_,rfl,λh=>by simp only[QA]at h;exact⟨i0 h.1,i0 h.2.1,i0 h.2.2.1,i0 h.2.2.2⟩⟩
 .show Wp (some (AV.bool (ofNat r.at_.length==0))) _
  exact Wb ⟨_,rfl,λh=>len0 h⟩
 .show Wp (dK true [K.b] (zFz r.sk r.sn r.su r.sb r.sc r.sd r.si r.s1 r.s2 r.s3 r.s4 r.sr r.qV) λb=>some (AV.bool b)) _
  exact zAn (R:=λb=>b=true->zF r 4) (zeJ r) λb hb=>Wb ⟨_,rfl,hb⟩
 .show Wp (some (AV.bool (zi r.tj []&&r.ti==0))) _
  exact Wb ⟨_,rfl,λh=>by simp only[QA]at h;exact⟨zAJ h.1,i0 h.2⟩⟩
 .show Wp (some (AV.bool (zi r.bj []&&r.bi==0))) _
  exact Wb ⟨_,rfl,λh=>by simp only[QA]at h;exact⟨zAJ h.1,i0 h.2⟩⟩
 .show Wp (some (AV.bool (zi r.m []))) _
  exact Wb ⟨_,rfl,λh=>zAJ h⟩
 .show Wp (some (AV.bool (zi r.qC []))) _
  exact Wb ⟨_,rfl,λh=>zAJ h⟩
 .show Wp (some (AV.bool (r.ic==0))) _
  exact Wb ⟨_,rfl,λh=>i0 h⟩
 .show Wp (some (AV.bool (r.nu==0))) _
  exact Wb ⟨_,rfl,λh=>i0 h⟩
 .show Wp (some (AV.bool (r.cd==0))) _
  exact Wb ⟨_,rfl,λh=>i0 h⟩
 .show Wp (some (AV.bool (!r.on))) _
  exact Wb ⟨_,rfl,λh=>(show r.on=false by simpa using h)⟩
theorem zdm(r:Rc):Wp (zGt r.k r.n r.bd r.a1 r.a2 r.a3 r.a4 r.at_ r.sk r.sn r.su r.sb r.sc r.sd r.si r.s1 r.s2 r.s3 r.s4 r.sr r.qV r.tj r.ti r.bj r.bi r.m r.qC r.ic r.nu r.cd r.on) (isQ (0<=r.cd/\r.cd<=1073741824)):=by
 rw[zQD];refine Wa (λ_=>Wc (λh1=>Wb ⟨_,rfl,λh=>?_⟩) λ_=>Wb ⟨_,rfl,λh=>by cases h⟩) λ_=>Wa (λ_=>Wc (λh1=>Wb ⟨_,rfl,λh=>?_⟩) λ_=>Wb ⟨_,rfl,λh=>by cases h⟩) λ_=>Wa (λh=>Wb ⟨_,rfl,λ_=>?_⟩) λ_=>Wa (λh=>Wb ⟨_,rfl,λ_=>?_⟩) λ_=>Wb ⟨_,rfl,λh=>?_⟩
 .have:=Qm h;omega
 .have:=Qm h;omega
 all_goals (have h:=eq_of_beq h;omega)
theorem zdn(b:Int):Wp (zCw b) λv=>∃s,v=.str s/\(¬s=[]->0<=b/\b<=1073741824):=by
 rw[zMl];refine Wc (λ_=>Wb ⟨_,rfl,λh=>absurd rfl h⟩) λh=>?_
 obtain⟨b,rfl⟩:=Int.eq_ofNat_of_zero_le (show 0<=b by omega)
 have e:zF1=some (.qf 1 [AV.str [102,114,101,101],AV.str [98,97,116,99,104],AV.str [112,114,111,100],AV.str [109,111,110,105,116,111,114,105,110,103]]):=zFN;rw[e,zDl];refine Wc (λ_=>Wb ⟨_,rfl,λh=>absurd rfl h⟩) λh2=>?_
 have h2:b<4:=by
  have:¬(ofNat b>=4):=h2;rw[qr]at this;omega
 rw[zDl];rcases(by omega:b=0\/b=1\/b=2\/b=3)with rfl|rfl|rfl|rfl
 all_goals exact qk_s rfl (Wb ⟨_,rfl,λ_=>⟨by decide,by decide⟩⟩)
theorem zeK(r:Rc)(j:TyC r)(f:Nat)(x:f<=12):Wp (zJM r.k r.n r.bd r.a1 r.a2 r.a3 r.a4 r.at_ r.sk r.sn r.su r.sb r.sc r.sd r.si r.s1 r.s2 r.s3 r.s4 r.sr r.qV r.tj r.ti r.bj r.bi r.m r.qC r.ic r.nu r.cd r.on (ofNat f)) (isQ (kF r f)):=by
 rw[zRH];rcases(by omega:f=0\/f=1\/f=2\/f=3\/f=4\/f=5\/f=6\/f=7\/f=8\/f=9\/f=10\/f=11\/f=12)with rfl|rfl|rfl|rfl|rfl|rfl|rfl|rfl|rfl|rfl|rfl|rfl|rfl
 .show Wp (dK true [K.b] (zq r.n) _) _
  exact zAn (R:=λ_=>True) (zBn r.n) λb _=>Wb ⟨_,rfl,λ_=>trivial⟩
 .show Wp (dK true [K.s] (zCw r.bd) _) _
  exact zOn (R:=λs=>¬s=[]->0<=r.bd/\r.bd<=1073741824) (zdn _) λb hb=>Wb ⟨_,rfl,λh=>hb λe=>by subst e;cases h⟩
 .show Wp (dK true [K.i .i64] (zDa r.a1 r.a2 r.a3 r.a4) _) _
  refine zCE (zGp ..) (Wa (λh=>?_) λ_=>Wb ⟨_,rfl,λh=>by cases h⟩)
  have g:okA r.a1 r.a2 r.a3 r.a4:=by
   by_cases g:okA r.a1 r.a2 r.a3 r.a4
   .exact g
   .rw[if_neg g]at h;cases h
  exact Wa (λ_=>Wb ⟨_,rfl,λ_=>g⟩) λ_=>Wb ⟨_,rfl,λ_=>g⟩
 .show Wp (dK true [K.i .i64] (zIy r.at_) _) _
  exact zV3 (R:=λn=>n=0->(∀e∈r.at_,zJm e)/\r.at_.length<=16) (zYb _ j.at_) λn h=>Wb ⟨_,rfl,λl=>h (i0 l)⟩
 .show Wp (dK true [K.i .i64] (zAt r.sk r.sn r.su r.sb r.sc r.sd r.si r.s1 r.s2 r.s3 r.s4 r.sr r.qV) _) _
  obtain⟨_,e,n,rfl,_⟩:=zX0 (k:=r.sk) (n:=r.sn) (u:=r.su) (b:=r.sb) (c:=r.sc) (d:=r.sd) (i_:=r.si) (x1:=r.s1) (x2:=r.s2) (x3:=r.s3) (x4:=r.s4) (ba:=r.qV) j.sr;exact zCE e (Wa (λh=>Wb ⟨_,rfl,λ_=>(show zAt r.sk r.sn r.su r.sb r.sc r.sd r.si r.s1 r.s2 r.s3 r.s4 r.sr r.qV=some (.int .i64 0) by rw[e,i0 h])⟩) λ_=>Wb ⟨_,rfl,λh=>by cases h⟩)
 .show Wp (dK true [K.b] (zCI r.tj r.ti) _) _
  exact zAn (R:=λb=>b=true->0<=r.ti/\r.ti<=1073741824) (zVL _ _) λb h=>Wb ⟨_,rfl,h⟩
 .show Wp (br (r.cd==3) (dK true [K.b] (zCI r.bj r.bi) _) _) _
  exact Wa (λ_=>zAn (R:=λb=>b=true->0<=r.bi/\r.bi<=1073741824) (zVL _ _) λb h=>Wb ⟨_,rfl,h⟩) λ_=>Wb ⟨_,rfl,λh=>by simp only[QA]at h;have:=i0 h.2;unfold kF;simp only;omega⟩
 .show Wp (dK true [K.b] (zq r.m) _) _
  exact zAn (R:=λ_=>True) (zBn r.m) λb _=>Wb ⟨_,rfl,λ_=>trivial⟩
 .show Wp (dK true yae (zD4 r.qC) _) _
  obtain⟨_,e,a,b,n,rfl⟩:=zZ1 r.qC (by have:=j.qC;omega)
  exact zXT e (Wa (λ_=>Wb ⟨_,rfl,λ_=>trivial⟩) λ_=>Wb ⟨_,rfl,λ_=>trivial⟩)
 .exact Wb ⟨_,rfl,λ_=>trivial⟩
 .exact Wb ⟨_,rfl,λ_=>trivial⟩
 .show Wp (dK true [K.b] (zGt r.k r.n r.bd r.a1 r.a2 r.a3 r.a4 r.at_ r.sk r.sn r.su r.sb r.sc r.sd r.si r.s1 r.s2 r.s3 r.s4 r.sr r.qV r.tj r.ti r.bj r.bi r.m r.qC r.ic r.nu r.cd r.on) _) _
  exact zAn (R:=λb=>b=true->0<=r.cd/\r.cd<=1073741824) (zdm r) λb h=>Wb ⟨_,rfl,h⟩
 .exact Wb ⟨_,rfl,λ_=>trivial⟩
theorem za8(l:JV)(f:Nat)(hl:l.length<=13):∀(n i:Nat),i<=l.length->l.length-i<n->(∀j (h:j<l.length),j<i->l[j]≠f)->Wp (zAV n (kI l) (ofNat f) (ofNat (kI l).length) (ofNat i)) λv=>∃x,v=.int .i64 x/\decide (x>=0)=decide (f∈l):=by
 intro n
 induction n with
 |zero=>intro i _ h;omega
 |succ n F=>
  intro i hi H s;rw[zJd,QG];refine Wp.lt (λg=>?_) λB=>Wb ⟨_,rfl,?_⟩
  .have D:ixN (kI l) (ofNat i)=some (.int .i64 (ofNat l[i])):=by
    have z:i<(kI l).length:=by rw[QG];exact g
    rw[zA2 z,List.getElem_map]
   refine zCE D (Wa (λh=>Wb ⟨_,rfl,?_⟩) λh=>?_)
   .have h:ofNat f=ofNat l[i]:=by simpa using h
    have h:f=l[i]:=Int.ofNat_inj.1 h;rw[Qc (show f∈l from h▸Qg g)]
    exact Qc (Ql i)
   .rw[zm (by omega)]
    have h:¬f=l[i]:=λe=>by rw[←e]at h;simp at h
    have:=F (i+1) g (by omega) λj A C=>by
     rcases Nat.lt_or_ge j i with q|q
     .exact s j A q
     .obtain rfl:j=i:=by omega
      exact λe=>h e.symm
    rwa [QG]at this
  .have:f ∉ l:=λE=>by
    obtain⟨j,A,e⟩:=List.getElem_of_mem E;exact s j A (by omega) e
   rw[Qd this];rfl
theorem contains(l:JV)(f:Nat)(hl:l.length<=13):zCQ (kI l) (ofNat f)=some (.bool (decide (f∈l))):=by
 rw[zJe,zKB];obtain⟨_,e,x,rfl,g⟩:=za8 l f hl FUEL 0 (QN _) (zD (by omega)) λj _ h=>absurd h (Nat.not_lt_zero _)
 have e:zAV FUEL (kI l) (ofNat f) (ofNat (kI l).length) (ofNat 0)=some (.int .i64 x):=e;rw[e,zTx,g]
abbrev zYc(r:Rc)(f:Nat):Prop:=(f∈hasM r.k->kF r f)/\(f ∉ hasM r.k->zF r f)
def vN(r:Rc):Prop:=hasM r.k≠[]/\∀f,f<=12->zYc r f
abbrev isC(r:Rc)(v:AV):Prop:=∃e,v=.int .i64 e/\(e=0->vN r)
theorem zeL(r:Rc)(x:TyC r)(h0:hasM r.k≠[]):∀(n i:Nat),i<=13->13-i<n->(∀f,f<i->zYc r f)->Wp (zBC n (kI (hasM r.k)) (ofNat i) r.k r.n r.bd r.a1 r.a2 r.a3 r.a4 r.at_ r.sk r.sn r.su r.sb r.sc r.sd r.si r.s1 r.s2 r.s3 r.s4 r.sr r.qV r.tj r.ti r.bj r.bi r.m r.qC r.ic r.nu r.cd r.on) (isC r):=by
 have bad:isC r (.int .i64 (ofNat 2)):=⟨_,rfl,λh=>by cases h⟩
 intro n
 induction n with
 |zero=>intro i _ h;omega
 |succ n B=>
  intro i hi F l;rw[zNh];refine Wc (λg=>?_) λj=>Wb ⟨_,rfl,λ_=>⟨h0,λf h=>l f ?_⟩⟩
  .rw[qr]at g;have g:i<=12:=by omega
   obtain⟨_,e1,D,rfl,A⟩:=zdl r i g;have s:zYc r i->Wp (zBC n (kI (hasM r.k)) (wrapx IntKind.i64 (ofNat i+1)) r.k r.n r.bd r.a1 r.a2 r.a3 r.a4 r.at_ r.sk r.sn r.su r.sb r.sc r.sd r.si r.s1 r.s2 r.s3 r.s4 r.sr r.qV r.tj r.ti r.bj r.bi r.m r.qC r.ic r.nu r.cd r.on) (isC r):=λh=>by
    rw[zm (by omega)]
    refine B (i+1) (by omega) (by omega) λf C=>?_
    rcases Nat.lt_or_ge f i with q|q
    .exact l f q
    .obtain rfl:f=i:=by omega
     exact h
   refine qk_b e1 (qk_b (contains _ i (zLf r.k).2) (Wa (λhc=>?_) λhc=>?_))
   .obtain⟨_,e2,E,rfl,z⟩:=zeK r x i g;have hc:i∈hasM r.k:=Qm hc;exact qk_b e2 (Wa (λ_=>Wb bad) λh2=>s ⟨λ_=>z (by simpa using h2),λh=>absurd hc h⟩)
   .have hc:i ∉ hasM r.k:=of_decide_eq_false hc;exact Wa (λ_=>Wb bad) λh2=>s ⟨λh=>absurd h hc,λ_=>A (by simpa using h2)⟩
  .rw[qr]at j;omega
theorem zW6(r:Rc)(g:TyC r):Wp (zEi r.k r.n r.bd r.a1 r.a2 r.a3 r.a4 r.at_ r.sk r.sn r.su r.sb r.sc r.sd r.si r.s1 r.s2 r.s3 r.s4 r.sr r.qV r.tj r.ti r.bj r.bi r.m r.qC r.ic r.nu r.cd r.on) (isC r):=by
 rw[zQE];by_cases h0:hasM r.k=[]
 .rw[zYa,h0];exact Wb ⟨_,rfl,λh=>by cases h⟩
 .rw[zSI h0,zDl];refine Wa (λh=>?_) λ_=>zeL r g h0 FUEL 0 (by omega) (zD (by omega)) λf h=>absurd h (Nat.not_lt_zero _)
  exact absurd (List.map_eq_nil_iff.1 (len0 h)) h0
theorem zW7{r:Rc}(g:Ty r)(h:vN r):zUG r:=by
 refine⟨h.1,λf s=>?_⟩
 have l:=(zLf r.k).1 f s;have j:=(h.2 f l).1 s;rcases(by omega:f=0\/f=1\/f=2\/f=3\/f=4\/f=5\/f=6\/f=7\/f=8\/f=9\/f=10\/f=11\/f=12)with rfl|rfl|rfl|rfl|rfl|rfl|rfl|rfl|rfl|rfl|rfl|rfl|rfl
 .show r.n.length<=65536;have:=g.n;omega
 .trivial
 .exact j
 .exact⟨j.1,g.al⟩
 .obtain⟨x,h1,h2,_⟩:=back (strict g.sr j) j;exact⟨x,h1,h2⟩
 .show r.tj.length<=65536;have:=g.tj;omega
 .show r.bj.length<=65536;have:=g.bj;omega
 .show r.m.length<=65536;have:=g.m;omega
 .show r.qC.length<=65536;have:=g.qC;omega
 .exact g.ic
 .exact g.nu
 .trivial
 .trivial
theorem za9(k:Nat):∀(n x:Nat)(b:JE),x<128 ^ (k+1)->k<n->b.length+k<=60000000000000->zB6 n (ofNat x) b=vec1 (b++bys (uv x)):=by
 induction k with
 |zero=>
  intro n x b j s hb;obtain⟨n,rfl⟩:∃m,n=m+1:=⟨n-1,by omega⟩
  have h:x<128:=by simpa using j
  rw[zE4,show decide (ofNat x>=128)=false from Qd (by rw[qr];omega),zj,zFd (by show b.length+1<=_;omega),zL9 h,zKP,Nat.mod_eq_of_lt (by omega)]
  rfl
 |succ k l=>
  intro n x b j s hb;obtain⟨n,rfl⟩:∃m,n=m+1:=⟨n-1,by omega⟩
  rw[zE4];by_cases h:x<128
  .rw[show decide (ofNat x>=128)=false from Qd (by rw[qr];omega),zj,zFd (by show b.length+1<=_;omega),zL9 h,zKP,Nat.mod_eq_of_lt (by omega)]
   rfl
  .rw[show decide (ofNat x>=128)=true from Qc (by rw[qr];omega),zAs,zFd (by show b.length+1<=_;omega),zZZ,zUb,zQu h]
   have g:x / 128<128 ^ (k+1):=by rw[Nat.pow_succ]at j;omega
   have e:=l n (x / 128) (b++bys [x % 128+128]) g (by omega) (by rw[QE];show b.length+1+k<=_;omega)
   rw[show bys ((x % 128+128)::uv (x / 128))=bys [x % 128+128]++bys (uv (x / 128))from rfl,←QP]
   exact e
theorem num1(x:Nat)(hx:x<1000):zFC (ofNat x)=some (.qf 1 (bys (uv x))):=by
 have e:=za9 9 FUEL x [] (QW (show x<1000 from hx) (by decide)) (zD (by omega)) (by show 0+9<=_;omega)
 rw[zPQ,zDY,zG9 x (by omega),zLK,zOQ,zH6,e,zH6]
 rfl
def sm(r q:Rc):Nat->Prop
 |0=>r.n=q.n
 |1=>r.bd=q.bd
 |2=>r.a1=q.a1/\r.a2=q.a2/\r.a3=q.a3/\r.a4=q.a4
 |3=>r.at_=q.at_
 |4=>r.sk=q.sk/\r.sn=q.sn/\r.su=q.su/\r.sb=q.sb/\r.sc=q.sc/\r.sd=q.sd/\r.si=q.si/\r.s1=q.s1/\r.s2=q.s2/\r.s3=q.s3/\r.s4=q.s4/\r.sr=q.sr/\r.qV=q.qV
 |5=>r.tj=q.tj/\r.ti=q.ti
 |6=>r.bj=q.bj/\r.bi=q.bi
 |7=>r.m=q.m
 |8=>r.qC=q.qC
 |9=>r.ic=q.ic
 |10=>r.nu=q.nu
 |11=>r.cd=q.cd
 |_=>r.on=q.on
theorem zdo{r q:Rc}(f:Nat)(g:f<=12)(h1:zF r f)(h2:zF q f):sm r q f:=by
 rcases(by omega:f=0\/f=1\/f=2\/f=3\/f=4\/f=5\/f=6\/f=7\/f=8\/f=9\/f=10\/f=11\/f=12)with rfl|rfl|rfl|rfl|rfl|rfl|rfl|rfl|rfl|rfl|rfl|rfl|rfl
 all_goals (unfold zF at h1 h2;unfold sm;simp only at h1 h2;simp only[h1,h2,and_self])
theorem zeM{r q:Rc}(B:r.k=q.k)(h:∀f,f<=12->sm r q f):r=q:=by
 have h0:=h 0 (by decide);have h1:=h 1 (by decide);have h2:=h 2 (by decide);have h3:=h 3 (by decide);have h4:=h 4 (by decide);have A:=h 5 (by decide);have s:=h 6 (by decide)
 have z:=h 7 (by decide);have h8:=h 8 (by decide);have x:=h 9 (by decide);have g:=h 10 (by decide);have l:=h 11 (by decide);have j:=h 12 (by decide)
 unfold sm at h0 h1 h2 h3 h4 A s z h8 x g l j;cases r;cases q;simp only at B h0 h1 h2 h3 h4 A s z h8 x g l j;simp only[Rc.mk.injEq,B,h0,h1,h2,h3,h4,A,s,z,h8,x,g,l,j,and_self]
theorem neI{x y:Int}(h:(x != y)=false):x=y:=by simpa using h
abbrev zRZ(v:AV):Prop:=v=.bool true
theorem bI{x:Int}:(x != x)=false:=by simp
theorem zZ2(es:JE)(h:NdB es):Wp (zCW es es) zRZ:=by
 have loop:∀(n i:Nat),i<=es.length->es.length-i<n->Wp (zBc n (ofNat i) es es) zRZ:=by
  intro n
  induction n with
  |zero=>intro i _ h;omega
  |succ n z=>
   intro i hi E;rw[zIh];refine Wp.lt (λg=>h.at g λk s t j l r e1 _ _=>h.at g λD A C H F B e2 _ _=>?_) λx=>Wb rfl
   rw[e1]at e2;injection e2 with e2
   simp only[List.cons.injEq,AV.int.injEq,AV.str.injEq,true_and,and_true]at e2;obtain⟨rfl,rfl,rfl,rfl,rfl,rfl⟩:=e2;show Wp (br (!(k==k&&(zi s s&&(zi t t&&(j==j&&(l==l&&r==r)))))) _ _) _
   rw[show(!(k==k&&(zi s s&&(zi t t&&(j==j&&(l==l&&r==r))))))=false by simp[zHY],zj,zm (by have:=h.2;omega)]
   exact z (i+1) g (by omega)
 rw[zJi,bI,zj];exact loop _ 0 (QN _) (zD (by have:=h.2;omega))
theorem zZ3{r:Rc}(hr:NdB r.sr):Wp (zCX r.sk r.sn r.su r.sb r.sc r.sd r.si r.s1 r.s2 r.s3 r.s4 r.sr r.qV r.sk r.sn r.su r.sb r.sc r.sd r.si r.s1 r.s2 r.s3 r.s4 r.sr r.qV) zRZ:=by
 rw[zJj];simp only[zHY,beq_self_eq_true,Bool.and_self,zAs];obtain⟨_,e,rfl⟩:=zZ2 r.sr hr;exact qk_b e (Wb rfl)
theorem zeN(r:Rc)(hr:Ats r.at_):∀(n i:Nat),i<=r.at_.length->r.at_.length-i<n->Wp (zAW n (ofNat i) r.k r.n r.bd r.a1 r.a2 r.a3 r.a4 r.at_ r.sk r.sn r.su r.sb r.sc r.sd r.si r.s1 r.s2 r.s3 r.s4 r.sr r.qV r.tj r.ti r.bj r.bi r.m r.qC r.ic r.nu r.cd r.on r.k r.n r.bd r.a1 r.a2 r.a3 r.a4 r.at_ r.sk r.sn r.su r.sb r.sc r.sd r.si r.s1 r.s2 r.s3 r.s4 r.sr r.qV r.tj r.ti r.bj r.bi r.m r.qC r.ic r.nu r.cd r.on) zRZ:=by
 intro n
 induction n with
 |zero=>intro i _ h;omega
 |succ n l=>
  intro i hi A;rw[zHn];refine Wp.lt (λg=>hr.at g λs t e1=>hr.at g λx z e2=>?_) λj=>Wb rfl
  rw[e1]at e2;injection e2 with e2
  simp only[List.cons.injEq,AV.str.injEq,and_true]at e2;obtain⟨rfl,rfl⟩:=e2;show Wp (br (!(zi s s&&zi t t)) _ _) _
  rw[show(!(zi s s&&zi t t))=false by simp[zHY],zj,zm (by have:=hr.2;omega)]
  exact l (i+1) g (by omega)
theorem zba{r:Rc}(hr:Ty r):Wp (zCA r.k r.n r.bd r.a1 r.a2 r.a3 r.a4 r.at_ r.sk r.sn r.su r.sb r.sc r.sd r.si r.s1 r.s2 r.s3 r.s4 r.sr r.qV r.tj r.ti r.bj r.bi r.m r.qC r.ic r.nu r.cd r.on r.k r.n r.bd r.a1 r.a2 r.a3 r.a4 r.at_ r.sk r.sn r.su r.sb r.sc r.sd r.si r.s1 r.s2 r.s3 r.s4 r.sr r.qV r.tj r.ti r.bj r.bi r.m r.qC r.ic r.nu r.cd r.on) zRZ:=by
 rw[zIU];obtain⟨_,g,rfl⟩:=zZ3 (r:=r) hr.sr;simp only[bI,zHY,beq_self_eq_true,Bool.and_self,Bool.not_true,bne_self_eq_false,zj];refine qk_b g ?_
 simp only[Bool.not_true,zj];rw[zHp,zj,zHo];exact zeN r hr.at_ FUEL 0 (QN _) (zD (by have:=hr.al;omega))
theorem zZ4(l:List Rc)(hl:∀r∈l,Ty r)(A:l.length<=600):Wp (zBd (l.map Rc.av) (l.map Rc.av)) zRZ:=by
 have loop:∀(n i:Nat),i<=l.length->l.length-i<n->Wp (zAI n (l.map Rc.av) (l.map Rc.av) (ofNat i)) zRZ:=by
  intro n
  induction n with
  |zero=>intro i _ h;omega
  |succ n z=>
   intro i hi x;rw[zG1,QG];refine Wp.lt (λg=>?_) λs=>Wb rfl
   have j:ixN (l.map Rc.av) (ofNat i)=some l[i].av:=by
    rw[zA2 (by rw[QG];exact g),List.getElem_map]
   obtain⟨_,e,rfl⟩:=zba (hl _ (Qg g));refine zAd j (zAd j (qk_b e (Wa (λh=>by cases h) λ_=>?_)))
   rw[zm (by omega)]
   exact z (i+1) g (by omega)
 rw[zIi,bI,zj];exact loop FUEL 0 (QN _) (zD (by omega))
def zYr:AV:=AV.qf 2 [AV.agg [AV.func (Fn.func 65) [] [AV.qc (AV.agg [AV.func (Fn.func 28) [] []]) 0],AV.func (Fn.func 67) [] [AV.qc (AV.agg [AV.func (Fn.func 28) [] []]) 0]],AV.agg [AV.func (Fn.func 69) [] [AV.qc (AV.agg [AV.func (Fn.func 30) [] []]) 0],AV.func (Fn.func 70) [] [AV.qc (AV.agg [AV.func (Fn.func 30) [] []]) 0]],AV.agg [AV.func (Fn.func 31) [] [],AV.func (Fn.func 32) [] []],AV.agg [AV.func (Fn.func 33) [] [],AV.func (Fn.func 34) [] []],AV.agg [AV.func (Fn.func 35) [] [],AV.func (Fn.func 36) [] []],AV.agg [AV.func (Fn.func 75) [] [AV.qc (AV.agg [AV.func (Fn.func 38) [] []]) 0],AV.func (Fn.func 77) [] [AV.qc (AV.agg [AV.func (Fn.func 38) [] []]) 0]],AV.agg [AV.func (Fn.func 75) [] [AV.qc (AV.agg [AV.func (Fn.func 39) [] []]) 0],AV.func (Fn.func 77) [] [AV.qc (AV.agg [AV.func (Fn.func 39) [] []]) 0]],AV.agg [AV.func (Fn.func 65) [] [AV.qc (AV.agg [AV.func (Fn.func 40) [] []]) 0],AV.func (Fn.func 67) [] [AV.qc (AV.agg [AV.func (Fn.func 40) [] []]) 0]],AV.agg [AV.func (Fn.func 65) [] [AV.qc (AV.agg [AV.func (Fn.func 41) [] []]) 0],AV.func (Fn.func 67) [] [AV.qc (AV.agg [AV.func (Fn.func 41) [] []]) 0]],AV.agg [AV.func (Fn.func 78) [] [AV.qc (AV.agg [AV.func (Fn.func 43) [] []]) 0],AV.func (Fn.func 79) [] [AV.qc (AV.agg [AV.func (Fn.func 43) [] []]) 0]],AV.agg [AV.func (Fn.func 78) [] [AV.qc (AV.agg [AV.func (Fn.func 44) [] []]) 0],AV.func (Fn.func 79) [] [AV.qc (AV.agg [AV.func (Fn.func 44) [] []]) 0]],AV.agg [AV.func (Fn.func 69) [] [AV.qc (AV.agg [AV.func (Fn.func 45) [] []]) 0],AV.func (Fn.func 70) [] [AV.qc (AV.agg [AV.func (Fn.func 45) [] []]) 0]],AV.agg [AV.func (Fn.func 46) [] [],AV.func (Fn.func 48) [] []]]
theorem zYd:zBR=some zYr:=by
 unfold zBR gV;rw[zH0]
 kernel_rfl
theorem vS{β:Type}(k:Option β):dK true [K.c zYr] zBR k=k:=by
 rw[zYd];rfl
abbrev chk(r:Rc):Prop:=vN r/\zEi r.k r.n r.bd r.a1 r.a2 r.a3 r.a4 r.at_ r.sk r.sn r.su r.sb r.sc r.sd r.si r.s1 r.s2 r.s3 r.s4 r.sr r.qV r.tj r.ti r.bj r.bi r.m r.qC r.ic r.nu r.cd r.on=some (.int .i64 0)
abbrev ze6(g:List Rc)(v:AV):Prop:=(∃e,e≠0/\v=.qd [.qa,.int .i64 e])\/(v=.qd [.qf 1 (bys (uv g.length++zJn g)),.int .i64 (ofNat 0)]/\(∀r∈g,chk r)/\g.length<=512/\g≠[])
theorem zbb(g:List Rc)(h:∀r∈g,zUG r):(zJn g).length<=g.length*400000000:=by
 induction g with
 |nil=>exact QB _
 |cons a l j=>
  have:=j λv hv=>h v (.tail _ hv)
  have:=zVK (h a (.head _));show(zJX a++zJn l).length<=_
  rw[QE,QL];omega
theorem l9(g:List Rc)(A:g≠[])(D:∀r∈g,Ty r)(J:g.length<=600):∀(n i:Nat),i<=g.length->g.length-i<n->(∀j (h:j<g.length),j<i->chk g[j])->Wp (zDQ n (g.map Rc.av) (g.map Rc.av) (ofNat g.length) (ofNat i)) (ze6 g):=by
 intro n
 induction n with
 |zero=>intro i _ h;omega
 |succ n M=>
  intro i hi O E;rw[zNq];refine Wp.lt (λs=>?_) λF=>?_
  .have I:ixN (g.map Rc.av) (ofNat i)=some g[i].av:=by
    rw[zA2 (by rw[QG];exact s),List.getElem_map]
   obtain⟨_,e,c,rfl,hc⟩:=zW6 g[i] (D _ (Qg s)).c;refine zAd I (zCE e (Wa (λ_=>Wb (.inl ⟨_,by decide,rfl⟩)) λh=>?_))
   rw[zm (by omega)]
   refine M (i+1) s (by omega) λj B H=>?_
   rcases Nat.lt_or_ge j i with q|q
   .exact E j B q
   .obtain rfl:j=i:=by omega
    exact⟨hc (neI h),by rw[e,neI h]⟩
  .have C:∀r∈g,chk r:=λr hr=>by
    obtain⟨j,B,rfl⟩:=List.getElem_of_mem hr;exact E j B (by omega)
   refine Wc (λ_=>Wb (.inl ⟨_,by decide,rfl⟩)) λx=>?_
   rw[QG,qr]at x;have hl:(uv g.length).length<=10:=zMa (by omega)
   have z:bys (uv g.length)≠[]:=by
    by_cases h:g.length<128
    .rw[zL9 h];exact List.cons_ne_nil _ _
    .rw[zQu h];exact List.cons_ne_nil _ _
   have e:=l25 g (λr hr=>zW7 (D r hr) (C r hr).1) J FUEL 0 (bys (uv g.length)) (QN _) (zD (by omega)) z (by rw[QG];omega)
   rw[List.drop_zero,←zH7]at e;refine⟨_,?_,.inr ⟨rfl,C,by omega,A⟩⟩
   rw[zNZ];show dK true [K.l 1] (zFC (ofNat (g.map Rc.av).length)) _=_
   rw[QG,num1 _ (by omega),zDl]
   exact(vS _).trans e
theorem zbc(g:List Rc)(l:∀r∈g,Ty r)(s:g.length<=600):Wp (zIP (g.map Rc.av)) (ze6 g):=by
 rw[zP6,QG];exact Wa (λ_=>Wb (.inl ⟨_,by decide,rfl⟩)) λh=>l9 g (λe=>by subst e;cases h) l s FUEL 0 (QN _) (zD (by omega)) λj _ h=>absurd h (Nat.not_lt_zero _)
def Cut(w e:JV):Prop:=∃t,t≠[]/\w++t=e
theorem zeO:∀c:Nat,c<256->BitVec.toNat (BitVec.ofInt (IntKind.bits IntKind.u8) (ofNat c) &&& BitVec.ofInt (IntKind.bits IntKind.u8) 127)=c % 128:=by decide +kernel
theorem p2i(k:Nat):(2:Int) ^ k=ofNat (2 ^ k):=by
 induction k with
 |zero=>rfl
 |succ k g=>rw[Int.pow_succ,g,Nat.pow_succ];rfl
theorem p128(k:Nat):2 ^ (7*(k+1))=2 ^ (7*k)*128:=by rw[Nat.mul_succ,Nat.pow_add]
theorem sh7{k:Nat}(g:k<=9):wrapx IntKind.i64 (7*wrapx IntKind.i64 (ofNat (k+1)-1))=ofNat (7*k):=by
 rw[zCq (by omega) (by omega),Nat.add_sub_cancel,zI (by rw[qr];omega) (by rw[qr];omega),qr,qr];omega
theorem zeP{a m k:Nat}(g:a<2 ^ k):a ||| m*2 ^ k=a+m*2 ^ k:=by
 rw[Nat.or_comm,Nat.mul_comm,←Nat.two_pow_add_eq_or_of_lt g,Nat.add_comm]
abbrev zYs(a:Int)(n:Int)(c:Int):Int:=ofNat (BitVec.toNat (BitVec.ofInt (IntKind.bits IntKind.u64) a ||| BitVec.ofInt (IntKind.bits IntKind.u64) (wrapx IntKind.u64 (wrapx IntKind.u64 (IntKind.wrap IntKind.u8 ↑(BitVec.toNat (BitVec.ofInt (IntKind.bits IntKind.u8) c &&& BitVec.ofInt (IntKind.bits IntKind.u8) 127)))*2 ^ min (Int.toNat (wrapx IntKind.i64 (7*wrapx IntKind.i64 (n-1)))) (IntKind.bits IntKind.u64)))) % Int.natAbs (2 ^ IntKind.bits IntKind.u64))
theorem acc{a c k:Nat}(l:k<=9)(hc:c<256)(s:a<2 ^ (7*k))(x:a+c % 128*2 ^ (7*k)<18446744073709551616):zYs (ofNat a) (ofNat (k+1)) (ofNat c)=ofNat (a+c % 128*2 ^ (7*k)):=by
 unfold zYs;have j:c % 128*2 ^ (7*k)<18446744073709551616:=by omega
 have g:min (7*k) (IntKind.bits IntKind.u64)=7*k:=Nat.min_eq_left (show 7*k<=64 by omega)
 have e1:wrapx IntKind.u64 (IntKind.wrap IntKind.u8 ↑(c % 128))=ofNat (c % 128):=by
  rw[show IntKind.wrap IntKind.u8 ↑(c % 128)=ofNat (c % 128)from zZY _ (by omega),zDY,zG9 _ (by omega)]
 have e2:ofNat (c % 128)*2 ^ (7*k)=ofNat (c % 128*2 ^ (7*k)):=by rw[p2i];rfl
 rw[zeO c hc,sh7 l,e1];show ofNat (BitVec.toNat (BitVec.ofInt 64 (ofNat a) ||| BitVec.ofInt 64 (wrapx IntKind.u64 (ofNat (c % 128)*2 ^ min (7*k) (IntKind.bits IntKind.u64)))) % 18446744073709551616)=_
 rw[g,e2,zDY,zG9 _ j,BitVec.toNat_or,BitVec.toNat_ofInt,BitVec.toNat_ofInt];have e3:(ofNat a % ↑((2:Nat) ^ 64)).toNat=a:=by rw[qr];omega
 have e4:(ofNat (c % 128*2 ^ (7*k)) % ↑((2:Nat) ^ 64)).toNat=c % 128*2 ^ (7*k):=by rw[qr];omega
 rw[e3,e4,zeP s,Nat.mod_eq_of_lt x]
abbrev T3(x n:Nat)(e:Int):JF:=some (.qd [.int .u64 (ofNat x),.int .i64 (ofNat n),.int .i64 e])
theorem zdp{n a c k:Nat}(b:JE)(g:k<=9)(hc:c<128)(h0:k=0\/0<c)(j:a<2 ^ (7*k))(l:a+c*2 ^ (7*k)<18446744073709551616):zBD n b (ofNat a) (ofNat (k+1)) (ofNat c)=T3 (a+c*2 ^ (7*k)) (k+1) 0:=by
 have e:=acc (c:=c) g (by omega) j (by rw[Nat.mod_eq_of_lt hc];exact l)
 rw[Nat.mod_eq_of_lt hc]at e;unfold zYs at e;rw[zH9,e,sh7 g,show decide (0<=ofNat (7*k))=true from Qc (Ql _),zGo,show decide (ofNat c>=128)=false from Qd (by rw[qr];omega),zj]
 rcases h0 with rfl|h0
 .rw[show decide (ofNat (0+1) > 1)=false from rfl,zj]
  cases (ofNat c==0)<;>rfl
 .rw[show(ofNat c==0)=false from nbq (by rw[qr];omega),zj]
  rfl
theorem zW8{n a c k:Nat}(b:JE)(j:k<=9)(hc:c<128)(l:a<2 ^ (7*k))(s:a+c*2 ^ (7*k)<18446744073709551616):zBD n b (ofNat a) (ofNat (k+1)) (ofNat (c+128))=zAR n b (ofNat (a+c*2 ^ (7*k))) (ofNat (k+1)):=by
 have g:(c+128) % 128=c:=by omega
 have e:=acc (c:=c+128) j (by omega) l (by rw[g];exact s)
 rw[g]at e;unfold zYs at e;rw[zH9,e,sh7 j,show decide (0<=ofNat (7*k))=true from Qc (Ql _),zGo,show decide (ofNat (c+128)>=128)=true from Qc (by rw[qr];omega),zAs]
theorem k9{a y k:Nat}(g:a+y*2 ^ (7*k)<18446744073709551616)(h:0<y):k<=9:=by
 rcases Nat.lt_or_ge k 10 with q|q
 .omega
 .have h1:2 ^ 70<=2 ^ (7*k):=Nat.pow_le_pow_right (by decide) (by omega)
  have h2:2 ^ (7*k)<=y*2 ^ (7*k):=Nat.le_mul_of_pos_left _ h;have:(2:Nat) ^ 70=1180591620717411303424:=rfl;omega
theorem bx(pre t:JV)(c:Nat):ixN (bys (pre++c::t)) (ofNat pre.length)=some (.int .u8 (ofNat c)):=by
 rw[zA2 (by rw[QG,QE,QL];omega),List.getElem_map,List.getElem_append_right (QB _)]
 simp
theorem bl(pre t:JV)(c:Nat):decide (ofNat pre.length<ofNat (bys (pre++c::t)).length)=true:=Qc (Int.ofNat_lt.2 (by rw[QG,QE,QL];omega))
theorem zTj{n a:Nat}(pre t:JV)(c:Nat)(h:pre.length=9->c=1)(j:pre.length<=9):zAR (n+1) (bys (pre++c::t)) (ofNat a) (ofNat pre.length)=zBD n (bys (pre++c::t)) (ofNat a) (ofNat (pre.length+1)) (ofNat c):=by
 rw[zHg,bl,zAs,bx,zm (by omega)]
 show br (ofNat (pre.length+1)==10) (br (ofNat c != 1) _ _) _=_
 by_cases g:pre.length=9
 .rw[h g,g];rfl
 .rw[show(ofNat (pre.length+1)==10)=false from nbq (by rw[qr];omega),zj]
theorem zYe{a y k:Nat}:a+y % 128*2 ^ (7*k)+y / 128*2 ^ (7*(k+1))=a+y*2 ^ (7*k):=by
 have e:y / 128*(2 ^ (7*k)*128)=128*(y / 128)*2 ^ (7*k):=by rw[Nat.mul_comm (2 ^ (7*k)) 128,←Nat.mul_assoc,Nat.mul_comm (y / 128) 128]
 rw[p128,e,Nat.add_assoc,←Nat.add_mul,Nat.mod_add_div]
theorem zbQ{a y k:Nat}(g:a<2 ^ (7*k)):a+y % 128*2 ^ (7*k)<2 ^ (7*(k+1)):=by
 rw[p128];have h1:y % 128*2 ^ (7*k)<=127*2 ^ (7*k):=Nat.mul_le_mul_right _ (by omega)
 omega
theorem zdq:∀(n y:Nat)(pre t:JV)(a:Nat),pre.length+n > 10->a<2 ^ (7*pre.length)->a+y*2 ^ (7*pre.length)<18446744073709551616->(pre.length=0\/0<y)->zAR n (bys (pre++(uv y++t))) (ofNat a) (ofNat pre.length)=T3 (a+y*2 ^ (7*pre.length)) (pre.length+(uv y).length) 0:=by
 intro n
 induction n with
 |zero=>
  intro y pre t a B s g h0;rcases h0 with h0|h0
  .omega
  .have:=k9 g h0;omega
 |succ n A=>
  intro y pre t a B s g h0;have l:pre.length<=9:=by
   rcases h0 with h0|h0
   .omega
   .exact k9 g h0
  have z:pre.length=9->y=1:=λe=>by
   rw[e]at g h0;have:(2:Nat) ^ (7*9)=9223372036854775808:=rfl;omega
  by_cases x:y<128
  .rw[zL9 x,List.singleton_append,zTj pre t y z l,zdp _ l x h0 s g];rfl
  .rw[zQu x,List.cons_append,zTj pre _ _ (λe=>by have:=z e;omega) l]
   have e1:a+y % 128*2 ^ (7*pre.length)<=a+y*2 ^ (7*pre.length):=Nat.add_le_add_left (Nat.mul_le_mul_right _ (Nat.mod_le _ _)) _;rw[zW8 _ l (Nat.mod_lt _ (by decide)) s (by omega)]
   have j:=A (y / 128) (pre++[y % 128+128]) t (a+y % 128*2 ^ (7*pre.length));rw[QE,List.length_singleton,QP,List.singleton_append]at j;rw[j (by omega) (zbQ s) (by rw[zYe];exact g) (.inr (by omega)),zYe,QL,Nat.add_assoc,Nat.add_comm 1]
theorem zeQ:∀(n y:Nat)(pre w:JV)(a:Nat),pre.length+n > 10->a<2 ^ (7*pre.length)->a+y*2 ^ (7*pre.length)<18446744073709551616->(pre.length=0\/0<y)->Cut w (uv y)->zAR n (bys (pre++w)) (ofNat a) (ofNat pre.length)=T3 0 0 4:=by
 intro n
 induction n with
 |zero=>
  intro y pre w a C s j h0;rcases h0 with h0|h0
  .omega
  .have:=k9 j h0;omega
 |succ n E=>
  intro y pre w a C s j h0 ⟨t,x,l⟩;have z:pre.length<=9:=by
   rcases h0 with h0|h0
   .omega
   .exact k9 j h0
  cases w with
  |nil=>
   rw[zHg,Qk,QG,show decide (ofNat pre.length<ofNat pre.length)=false from Qd (Int.lt_irrefl _),zj]
   rfl
  |cons c w=>
   by_cases A:y<128
   .rw[zL9 A]at l;have:=(List.cons.inj l).2;exact absurd (List.append_eq_nil_iff.1 this).2 x
   .rw[zQu A]at l;obtain⟨hc,B⟩:=List.cons.inj l;have D:pre.length=9->c=1:=λe=>by
     rw[e]at j;have:(2:Nat) ^ (7*9)=9223372036854775808:=rfl;omega
    rw[zTj pre _ _ D z,hc];have e1:a+y % 128*2 ^ (7*pre.length)<=a+y*2 ^ (7*pre.length):=Nat.add_le_add_left (Nat.mul_le_mul_right _ (Nat.mod_le _ _)) _;rw[zW8 _ z (Nat.mod_lt _ (by decide)) s (by omega)]
    have g:=E (y / 128) (pre++[y % 128+128]) w (a+y % 128*2 ^ (7*pre.length));rw[QE,List.length_singleton,QP,List.singleton_append]at g;exact g (by omega) (zbQ s) (by rw[zYe];exact j) (.inr (by omega)) ⟨t,x,B⟩
theorem zZ5{x:Nat}(hx:x<18446744073709551616)(t:JV):zFD (bys (uv x++t))=T3 x (uv x).length 0:=by
 have:=zdq FUEL x [] t 0 (by have:=zD (n:=20) (by omega);show 0+FUEL > 10;omega) (by decide) (by show 0+x*1<_;omega) (.inl rfl)
 rw[zJE];refine this.trans ?_
 show T3 (0+x*1) (0+(uv x).length) 0=_
 rw[Qa,Qa,Nat.mul_one]
theorem zbd{x:Nat}(hx:x<18446744073709551616){w:JV}(h:Cut w (uv x)):zFD (bys w)=T3 0 0 4:=by
 have:=zeQ FUEL x [] w 0 (by have:=zD (n:=20) (by omega);show 0+FUEL > 10;omega) (by decide) (by show 0+x*1<_;omega) (.inl rfl) h
 rw[zJE];exact this
abbrev rH(bs:JV)(p:Nat)(e:Int):HO:=.cells false [.qf 1 (bys bs),.int .i64 (ofNat p),.int .i64 e,.bool true]
abbrev rS(v:AV)(bs:JV)(p:Nat)(e:Int):Option (AV×Heap×Vecs):=some (v,[(0,rH bs p e)],[])
def Full(bs:JV)(p:Nat)(enc t:JV):Prop:=p<=bs.length/\bs.length<=40000000000000/\bs.drop p=enc++t
def zAo(bs:JV)(p:Nat)(e:Int)(enc:JV):Prop:=p<=bs.length/\bs.length<=40000000000000/\(e=4\/(e=0/\Cut (bs.drop p) enc))
theorem Full.le{bs:JV}{p:Nat}{enc t:JV}(h:Full bs p enc t):p+enc.length<=bs.length:=by
 have e:=congrArg List.length h.2.2;rw[Qn,QE]at e;have:=h.1;omega
theorem Full.fst{bs:JV}{p:Nat}{a b t:JV}(h:Full bs p (a++b) t):Full bs p a (b++t):=⟨h.1,h.2.1,by rw[h.2.2,QP]⟩
theorem Full.snd{bs:JV}{p:Nat}{a b t:JV}(h:Full bs p (a++b) t):Full bs (p+a.length) b t:=by
 have l:=h.fst.le;refine⟨l,h.2.1,?_⟩
 rw[←List.drop_drop,h.fst.2.2,List.drop_left]
theorem zAo.two{bs:JV}{p:Nat}{e:Int}{a b:JV}(h:zAo bs p e (a++b)):zAo bs p e a\/(e=0/\(∃t,Full bs p a t)/\zAo bs (p+a.length) 0 b):=by
 obtain⟨h1,h2,h3⟩:=h;rcases h3 with h3|⟨h3,t,g,j⟩
 .exact .inl ⟨h1,h2,.inl h3⟩
 .rcases List.append_eq_append_iff.1 j with⟨c,e1,e2⟩|⟨c,e1,e2⟩
  .cases c with
   |nil=>
    rw[Qk]at e1;have f:Full bs p a []:=⟨h1,h2,by rw[Qk,e1]⟩
    refine .inr ⟨h3,⟨_,f⟩,f.le,h2,.inr ⟨rfl,t,g,?_⟩⟩
    rw[←List.drop_drop,f.2.2,List.drop_left];exact e2
   |cons c0 c=>exact .inl ⟨h1,h2,.inr ⟨h3,c0::c,List.cons_ne_nil _ _,e1.symm⟩⟩
  .have f:Full bs p a c:=⟨h1,h2,e1⟩;refine .inr ⟨h3,⟨_,f⟩,f.le,h2,.inr ⟨rfl,t,g,?_⟩⟩
   rw[←List.drop_drop,f.2.2,List.drop_left];exact e2.symm
theorem zAo.four{bs:JV}{p:Nat}{e:Int}{a:JV}(h:zAo bs p e a)(b:JV):zAo bs p 4 b:=⟨h.1,h.2.1,.inl rfl⟩
theorem zAM(bs:JV)(p:Nat)(e:Int):zW (bys bs) (ofNat p) e true=rS (.bool (e != 0)) bs p e:=by
 rw[zLw,zH8];rfl
abbrev tup2(x n:Nat):AV:=.qd [.int .u64 (ofNat x),.int .i64 (ofNat n)]
section
variable{β:Type}{bs:JV}{p:Nat}{e:Int}
theorem ze7{f:Bool->JE->Int->Int->Bool->Option β}{x:Bool}:dD true yE (rS (.bool x) bs p e) f=f x (bys bs) (ofNat p) e true:=rfl
theorem zMQ{f:JV->JE->Int->Int->Bool->Option β}{x:JV}:dD true yJ (rS (.str x) bs p e) f=f x (bys bs) (ofNat p) e true:=rfl
theorem zHS{f:Int->JE->Int->Int->Bool->Option β}{x:Int}:dD true yB (rS (.int .i64 x) bs p e) f=f x (bys bs) (ofNat p) e true:=rfl
theorem zR0{f:Int->Int->JE->Int->Int->Bool->Option β}{x n:Nat}:dD true yV (rS (tup2 x n) bs p e) f=f (ofNat x) (ofNat n) (bys bs) (ofNat p) e true:=rfl
end
theorem zbS{bs:JV}{p:Nat}:List.drop (Int.toNat (ofNat p)) (List.take (Int.toNat (ofNat (bys bs).length)) (bys bs))=bys (bs.drop p):=by
 show List.drop p (List.take (bys bs).length (bys bs))=_
 rw[List.take_length];exact(List.map_drop ..).symm
theorem zbB{bs:JV}{p:Nat}(h:p<=bs.length):decide (0<=ofNat p/\ofNat p<=ofNat (bys bs).length)=true:=Qc ⟨Ql _,Qv.2 (by rw[QG];exact h)⟩
theorem zSK{bs:JV}{p x:Nat}{t:JV}(hx:x<18446744073709551616)(h:Full bs p (uv x) t):zA9 (bys bs) (ofNat p) 0 true=rS (tup2 x (uv x).length) bs p 0:=by
 rw[zGS,zAM];show gd _ _=_
 rw[zbB h.1,zGo,zbS,h.2.2,zZ5 hx];rfl
theorem zVM{bs:JV}{p x:Nat}{e:Int}(hx:x<18446744073709551616)(h:zAo bs p e (uv x)):zA9 (bys bs) (ofNat p) e true=rS (tup2 0 0) bs p 4:=by
 rw[zGS,zAM];rcases h.2.2 with rfl|⟨rfl,hc⟩
 .rfl
 .show gd _ _=_
  rw[zbB h.1,zGo,zbS,zbd hx hc];rfl
theorem zV6{p n:Nat}(h:p+n<=9000000000000000000):wrapx IntKind.i64 (ofNat p+ofNat n)=ofNat (p+n):=by
 rw[zI (by simp only[qr];omega) (by simp only[qr];omega)];rfl
theorem zVN{bs:JV}{p x:Nat}{t:JV}(hx:x<18446744073709551616)(h:Full bs p (uv x) t):zAC (bys bs) (ofNat p) 0 true=rS (.int .u64 (ofNat x)) bs (p+(uv x).length) 0:=by
 have:=h.le;have:=h.2.1;rw[zIa,zSK hx h,zR0,zAM];show some (AV.int .u64 (ofNat x),[(0,HO.cells false [AV.qf 1 (bys bs),AV.int .i64 (wrapx IntKind.i64 (ofNat p+ofNat (uv x).length)),_,_])],_)=_
 rw[zV6 (by omega)]
theorem zSL{bs:JV}{p x:Nat}{e:Int}(hx:x<18446744073709551616)(h:zAo bs p e (uv x)):zAC (bys bs) (ofNat p) e true=rS (.int .u64 (ofNat 0)) bs p 4:=by
 rw[zIa,zVM hx h,zR0,zAM];rfl
theorem zeR{bs:JV}{p x:Nat}{t:JV}(hx:x<=1073741824)(h:Full bs p (uv x) t):zBb (bys bs) (ofNat p) 0 true=rS (.int .i64 (ofNat x)) bs (p+(uv x).length) 0:=by
 rw[zKe,zVN (by omega) h]
 show br (decide (ofNat x > 1073741824)) _ (some (AV.int .i64 (wrapx IntKind.i64 (ofNat x)),_,_))=_
 rw[show decide (ofNat x > 1073741824)=false from Qd (by rw[qr];omega),zj,zI (by simp only[qr];omega) (by simp only[qr];omega)]
theorem zLg{bs:JV}{p x:Nat}{e:Int}(hx:x<=1073741824)(h:zAo bs p e (uv x)):zBb (bys bs) (ofNat p) e true=rS (.int .i64 (ofNat 0)) bs p 4:=by
 rw[zKe,zSL (by omega) h]
 rfl
theorem xor0(x:Nat)(h:x<9223372036854775808):IntKind.wrap IntKind.i64 ↑(BitVec.toNat (BitVec.ofInt (IntKind.bits IntKind.i64) (ofNat x) ^^^ BitVec.ofInt (IntKind.bits IntKind.i64) 0))=ofNat x:=by
 show IntKind.wrap IntKind.i64 ↑(BitVec.toNat (BitVec.ofInt 64 (ofNat x) ^^^ BitVec.ofInt 64 0))=_
 rw[show BitVec.ofInt 64 0=0#64 from rfl,BitVec.xor_zero,BitVec.toNat_ofInt,←zI5]
 have e:(ofNat x % ↑((2:Nat) ^ 64)).toNat=x:=by rw[qr];omega
 rw[e,zI (by omega) (by omega)];rfl
theorem and1(x:Nat)(h:2*x<18446744073709551616):BitVec.toNat (BitVec.ofInt (IntKind.bits IntKind.u64) (ofNat (2*x)) &&& BitVec.ofInt (IntKind.bits IntKind.u64) 1)=0:=by
 show BitVec.toNat (BitVec.ofInt 64 (ofNat (2*x)) &&& 1#64)=0
 rw[BitVec.toNat_and,BitVec.toNat_ofInt];have e:(ofNat (2*x) % ↑((2:Nat) ^ 64)).toNat=2*x:=by rw[qr];omega
 rw[e];show 2*x &&& 1=0
 rw[Nat.and_one_is_mod];omega
theorem zLh{bs:JV}{p:Nat}{x:Int}{t:JV}(hx:inA x)(h:Full bs p (uv (2*x.toNat)) t):zBk (bys bs) (ofNat p) 0 true=rS (.int .i64 x) bs (p+(uv (2*x.toNat)).length) 0:=by
 unfold inA at hx;obtain⟨x,rfl⟩:=Int.eq_ofNat_of_zero_le hx.1;have hx:x<=1099511627776:=by omega
 have h:Full bs p (uv (2*x)) t:=h;have e1:wrapx IntKind.i64 (Int.fdiv (ofNat (2*x)) (2 ^ min (Int.toNat 1) (IntKind.bits IntKind.u64)))=ofNat x:=by
  show wrapx IntKind.i64 (Int.fdiv (ofNat (2*x)) 2)=_
  rw[Int.fdiv_eq_ediv_of_nonneg _ (by decide),show ofNat (2*x) / 2=ofNat x by rw[qr,qr];omega,zI (by rw[qr];omega) (by rw[qr];omega)]
 rw[zIS,zVN (by omega) h]
 show some (AV.int .i64 (IntKind.wrap IntKind.i64 ↑(BitVec.toNat (BitVec.ofInt (IntKind.bits IntKind.i64) (wrapx IntKind.i64 (Int.fdiv (ofNat (2*x)) (2 ^ min (Int.toNat 1) (IntKind.bits IntKind.u64)))) ^^^ BitVec.ofInt (IntKind.bits IntKind.i64) (wrapx IntKind.i64 (0-wrapx IntKind.i64 (IntKind.wrap IntKind.u64 ↑(BitVec.toNat (BitVec.ofInt (IntKind.bits IntKind.u64) (ofNat (2*x)) &&& BitVec.ofInt (IntKind.bits IntKind.u64) 1)))))))),_,_)=_
 rw[e1,and1 x (by omega)]
 show some (AV.int .i64 (IntKind.wrap IntKind.i64 ↑(BitVec.toNat (BitVec.ofInt (IntKind.bits IntKind.i64) (ofNat x) ^^^ BitVec.ofInt (IntKind.bits IntKind.i64) 0))),_,_)=_
 rw[xor0 x (by omega)]
 rfl
theorem zHa{bs:JV}{p:Nat}{e:Int}{x:Int}(hx:inA x)(h:zAo bs p e (uv (2*x.toNat))):zBk (bys bs) (ofNat p) e true=rS (.int .i64 (ofNat 0)) bs p 4:=by
 unfold inA at hx;rw[zIS,zSL (by omega) h]
 rfl
theorem zeS{bs:JV}{p:Nat}{x:Bool}{t:JV}(h:Full bs p [x.toNat] t):zDP (bys bs) (ofNat p) 0 true=rS (.bool x) bs (p+1) 0:=by
 have l:=h.le;have l:p<bs.length:=l;have:=h.2.1;have e0:=h.2.2;rw[Qo l,List.singleton_append]at e0;have e0:=(List.cons.inj e0).1;have e1:ixN (bys bs) (ofNat p)=some (.int .u8 (ofNat x.toNat)):=by
  rw[zA2 (by rw[QG];exact l),List.getElem_map,e0]
 have e2:wrapx IntKind.i64 (wrapx IntKind.i64 (ofNat p+1)-1)=ofNat p:=by
  rw[zm (by omega),zCq (by omega) (by omega)];rfl
 rw[zIb,zAM];show br (ofNat p==ofNat (bys bs).length) _ _=_
 rw[show(ofNat p==ofNat (bys bs).length)=false from nbq (by rw[QG,qr,qr];omega),zj,e1,e2,zm (by omega)]
 cases x
 .show dK true [K.i .u8] (ixN (bys bs) (ofNat p)) _=_
  rw[e1];rfl
 .show dK true [K.i .u8] (ixN (bys bs) (ofNat p)) _=_
  rw[e1];rfl
theorem cut1{w:JV}{c:Nat}(h:Cut w [c]):w=[]:=by
 obtain⟨t,j,g⟩:=h;cases w with
 |nil=>rfl
 |cons a w=>
  have:=(List.cons.inj g).2;exact absurd (List.append_eq_nil_iff.1 this).2 j
theorem zeT{bs:JV}{p:Nat}{e:Int}{x:Bool}(h:zAo bs p e [x.toNat]):zDP (bys bs) (ofNat p) e true=rS (.bool false) bs p 4:=by
 rw[zIb,zAM];rcases h.2.2 with rfl|⟨rfl,hc⟩
 .rfl
 .have:=List.drop_eq_nil_iff.1 (cut1 hc);have:=h.1;show br (ofNat p==ofNat (bys bs).length) _ _=_
  rw[QG,show p=bs.length by omega,show(ofNat bs.length==ofNat bs.length)=true by simp,zAs]
  rfl
theorem tb:∀s:JV,zAr (bys s)=some s
 |[]=>rfl
 |a::s=>by
  show(match zAr (bys s)with|some r=>some (a::r)|none=>none)=_
  rw[tb s]
theorem zEd{bs:JV}{p:Nat}{s t:JV}(x:s.length<=65536)(h:Full bs p (tv s) t):zP (bys bs) (ofNat p) 0 true=rS (.str s) bs (p+(tv s).length) 0:=by
 have l:=h.le;have h2:=h.snd;have j:=h2.le;have:=h.2.1;have lt:(tv s).length=(uv s.length).length+s.length:=QE;rw[zEn,zSK (by omega) h.fst,zR0,zAM]
 have e1:wrapx IntKind.u64 (wrapx IntKind.i64 (wrapx IntKind.i64 (ofNat (bys bs).length-ofNat p)-ofNat (uv s.length).length))=ofNat (bs.length-p-(uv s.length).length):=by
  have a1:ofNat (bys bs).length-ofNat p=ofNat (bs.length-p):=by rw[QG,qr,qr,qr];omega
  have a2:ofNat (bs.length-p)-ofNat (uv s.length).length=ofNat (bs.length-p-(uv s.length).length):=by rw[qr,qr,qr];omega
  rw[a1,zI (n:=ofNat (bs.length-p)) (by rw[qr];omega) (by rw[qr];omega),a2,zI (by rw[qr];omega) (by rw[qr];omega),zDY,zG9 _ (by omega)]
 have e2:wrapx IntKind.i64 (wrapx IntKind.i64 (ofNat p+ofNat (uv s.length).length)+wrapx IntKind.i64 (ofNat s.length))=ofNat (p+(tv s).length):=by
  rw[zV6 (by omega),zI (n:=ofNat s.length) (by rw[qr];omega) (by rw[qr];omega),zV6 (by omega),lt,Nat.add_assoc]
 have e3:zAr (List.drop (Int.toNat (ofNat (p+(uv s.length).length))) (List.take (Int.toNat (ofNat (p+(tv s).length))) (bys bs)))=some s:=by
  show zAr (List.drop (p+(uv s.length).length) (List.take (p+(tv s).length) (bys bs)))=_
  rw[List.drop_take,←List.map_drop,h2.2.2,show p+(tv s).length-(p+(uv s.length).length)=s.length by omega,←List.map_take,List.take_left,tb]
 show br (decide (ofNat s.length > 65536)) _ (br (decide (wrapx IntKind.u64 (wrapx IntKind.i64 (wrapx IntKind.i64 (ofNat (bys bs).length-ofNat p)-ofNat (uv s.length).length))<ofNat s.length)) _ (gd (decide (0<=wrapx IntKind.i64 (ofNat p+ofNat (uv s.length).length)/\wrapx IntKind.i64 (ofNat p+ofNat (uv s.length).length)<=wrapx IntKind.i64 (wrapx IntKind.i64 (ofNat p+ofNat (uv s.length).length)+wrapx IntKind.i64 (ofNat s.length))/\wrapx IntKind.i64 (wrapx IntKind.i64 (ofNat p+ofNat (uv s.length).length)+wrapx IntKind.i64 (ofNat s.length))<=ofNat (bys bs).length)) (bd (zAr (List.drop (Int.toNat (wrapx IntKind.i64 (ofNat p+ofNat (uv s.length).length))) (List.take (Int.toNat (wrapx IntKind.i64 (wrapx IntKind.i64 (ofNat p+ofNat (uv s.length).length)+wrapx IntKind.i64 (ofNat s.length)))) (bys bs)))) λg=>some (AV.str g,[(0,HO.cells false [AV.qf 1 (bys bs),AV.int .i64 (wrapx IntKind.i64 (wrapx IntKind.i64 (ofNat p+ofNat (uv s.length).length)+wrapx IntKind.i64 (ofNat s.length))),AV.int .i64 0,AV.bool true])],[]))))=_
 rw[e1,e2,zV6 (by omega),show decide (ofNat s.length > 65536)=false from Qd (by rw[qr];omega),zj,show decide (ofNat (bs.length-p-(uv s.length).length)<ofNat s.length)=false from Qd (by rw[qr,qr];omega),zj,e3,Qc ⟨Ql _,Qv.2 (by omega),Qv.2 (by rw[QG];omega)⟩]
 rfl
theorem zIx{bs:JV}{p:Nat}{e:Int}{s:JV}(z:s.length<=65536)(h:zAo bs p e (tv s)):zP (bys bs) (ofNat p) e true=rS (.str []) bs p 4:=by
 rcases h.two with d|⟨rfl,⟨t,f⟩,d⟩
 .rw[zEn,zVM (by omega) d,zR0,zAM]
  rfl
 .have l:=f.le;have:=h.2.1;rw[zEn,zSK (by omega) f,zR0,zAM]
  have e1:wrapx IntKind.u64 (wrapx IntKind.i64 (wrapx IntKind.i64 (ofNat (bys bs).length-ofNat p)-ofNat (uv s.length).length))=ofNat (bs.length-p-(uv s.length).length):=by
   have a1:ofNat (bys bs).length-ofNat p=ofNat (bs.length-p):=by rw[QG,qr,qr,qr];omega
   have a2:ofNat (bs.length-p)-ofNat (uv s.length).length=ofNat (bs.length-p-(uv s.length).length):=by rw[qr,qr,qr];omega
   rw[a1,zI (n:=ofNat (bs.length-p)) (by rw[qr];omega) (by rw[qr];omega),a2,zI (by rw[qr];omega) (by rw[qr];omega),zDY,zG9 _ (by omega)]
  have x:bs.length-(p+(uv s.length).length)<s.length:=by
   rcases d.2.2 with h|⟨_,t,j,g⟩
   .cases h
   .have e:=congrArg List.length g;rw[QE,Qn]at e;have:=List.length_pos_iff.2 j;omega
  show br (decide (ofNat s.length > 65536)) _ (br (decide (wrapx IntKind.u64 (wrapx IntKind.i64 (wrapx IntKind.i64 (ofNat (bys bs).length-ofNat p)-ofNat (uv s.length).length))<ofNat s.length)) _ _)=_
  rw[e1,show decide (ofNat s.length > 65536)=false from Qd (by rw[qr];omega),zj,show decide (ofNat (bs.length-p-(uv s.length).length)<ofNat s.length)=true from Qc (by rw[qr,qr];omega),zAs]
  rfl
theorem zSM{bs:JV}{p x m:Nat}{t:JV}(hx:x<=m)(hm:m<=1000)(h:Full bs p (uv x) t):zZ (ofNat m) (bys bs) (ofNat p) 0 true=rS (.int .i64 (ofNat x)) bs (p+(uv x).length) 0:=by
 have:=h.le;have:=h.2.1;rw[zHk,zAM,ze7,show((0:Int) != 0)=false from rfl,zj,show decide (ofNat m<0)=false from Qd (by rw[qr];omega),zj,zSK (by omega) h,zR0,zAM]
 show br (decide (ofNat x > wrapx IntKind.u64 (ofNat m))) _ (some (AV.int .i64 (wrapx IntKind.i64 (ofNat x)),[(0,HO.cells false [AV.qf 1 (bys bs),AV.int .i64 (wrapx IntKind.i64 (ofNat p+ofNat (uv x).length)),_,_])],_))=_
 rw[zDY,zG9 _ (by omega),show decide (ofNat x > ofNat m)=false from Qd (by rw[qr,qr];omega),zj,zV6 (by omega),zI (n:=ofNat x) (by rw[qr];omega) (by rw[qr];omega)]
theorem zZ6{bs:JV}{p x m:Nat}{e:Int}(hx:x<=m)(hm:m<=1000)(h:zAo bs p e (uv x)):zZ (ofNat m) (bys bs) (ofNat p) e true=rS (.int .i64 (ofNat 0)) bs p 4:=by
 rw[zHk,zAM];rcases h.2.2 with rfl|⟨rfl,hc⟩
 .rfl
 .rw[ze7,show((0:Int) != 0)=false from rfl,zj,show decide (ofNat m<0)=false from Qd (by rw[qr];omega),zj,zVM (by omega) h,zR0,zAM]
  rfl
theorem zKA(bs:JV)(p:Nat)(e:Int):zAN (bys bs) (ofNat p) e true=rS (.int .i64 e) bs p e:=by
 rw[zOc,zH8];rfl
theorem zTk(bs:JV)(p:Nat):zA4 (ofNat 5) (bys bs) (ofNat p) 4 true=rS (.qd []) bs p 4:=by
 rw[zNr,zAM];rfl
theorem zeU(bs:JV)(p:Nat):zBF (bys bs) (ofNat p) 0 true=if p<bs.length then rS (.int .i64 5) bs p 5 else rS (.int .i64 0) bs p 0:=by
 rw[zIe,zAM];show br (decide (ofNat p<ofNat (bys bs).length)) (zAu (bys bs) (ofNat p) (ofNat 5) true) (zAu (bys bs) (ofNat p) 0 true)=_
 rw[QG];by_cases h:p<bs.length
 .rw[show decide (ofNat p<ofNat bs.length)=true from Qc (Int.ofNat_lt.2 h),zAs,if_pos h,zDi,zKA];rfl
 .rw[show decide (ofNat p<ofNat bs.length)=false from Qd (λq=>h (Int.ofNat_lt.1 q)),zj,if_neg h,zDi,zKA];rfl
theorem zW9(bs:JV)(p:Nat):zBF (bys bs) (ofNat p) 4 true=rS (.int .i64 4) bs p 4:=by
 rw[zIe,zAM];show zAu (bys bs) (ofNat p) 4 true=_
 rw[zDi,zKA];rfl
end Go.Proofs.YtjfcepbllmdfcaaGreatDoor.record
namespace Go.Proofs.YtjfcepbllmdfcaaGreatDoor.record
open Go Go.Sy
variable[MX]
abbrev qH(q:Rc):HO:=.cells false [.int .i64 q.k,.str q.n,.int .i64 q.bd,.int .i64 q.a1,.int .i64 q.a2,.int .i64 q.a3,.int .i64 q.a4,.sym 0,.int .i64 q.sk,.str q.sn,.str q.su,.int .i64 q.sb,.int .i64 q.sc,.int .i64 q.sd,.str q.si,.int .i64 q.s1,.int .i64 q.s2,.int .i64 q.s3,.int .i64 q.s4,.qf 6 q.sr,.int .i64 q.qV,.str q.tj,.int .i64 q.ti,.str q.bj,.int .i64 q.bi,.str q.m,.str q.qC,.int .u64 q.ic,.int .u64 q.nu,.int .i64 q.cd,.bool q.on]
abbrev gS(bs:JV)(p:Nat)(e:Int)(q:Rc):Option (AV×Heap×Vecs):=some (.qd [],[(0,rH bs p e),(1,qH q)],[(0,.vec 2 q.at_)])
noncomputable def gF(bs:JV)(p:Nat)(e:Int)(q:Rc):Nat->Option (AV×Heap×Vecs)
 |0=>zFi (bys bs) (ofNat p) e true q.k q.n q.bd q.a1 q.a2 q.a3 q.a4 q.sk q.sn q.su q.sb q.sc q.sd q.si q.s1 q.s2 q.s3 q.s4 q.sr q.qV q.tj q.ti q.bj q.bi q.m q.qC q.ic q.nu q.cd q.on q.at_
 |1=>zF8 (bys bs) (ofNat p) e true q.k q.n q.bd q.a1 q.a2 q.a3 q.a4 q.sk q.sn q.su q.sb q.sc q.sd q.si q.s1 q.s2 q.s3 q.s4 q.sr q.qV q.tj q.ti q.bj q.bi q.m q.qC q.ic q.nu q.cd q.on q.at_
 |2=>zFk (bys bs) (ofNat p) e true q.k q.n q.bd q.a1 q.a2 q.a3 q.a4 q.sk q.sn q.su q.sb q.sc q.sd q.si q.s1 q.s2 q.s3 q.s4 q.sr q.qV q.tj q.ti q.bj q.bi q.m q.qC q.ic q.nu q.cd q.on q.at_
 |3=>zGV (bys bs) (ofNat p) e true q.k q.n q.bd q.a1 q.a2 q.a3 q.a4 q.sk q.sn q.su q.sb q.sc q.sd q.si q.s1 q.s2 q.s3 q.s4 q.sr q.qV q.tj q.ti q.bj q.bi q.m q.qC q.ic q.nu q.cd q.on q.at_
 |4=>zHH (bys bs) (ofNat p) e true q.k q.n q.bd q.a1 q.a2 q.a3 q.a4 q.sk q.sn q.su q.sb q.sc q.sd q.si q.s1 q.s2 q.s3 q.s4 q.sr q.qV q.tj q.ti q.bj q.bi q.m q.qC q.ic q.nu q.cd q.on q.at_
 |5=>zFn (bys bs) (ofNat p) e true q.k q.n q.bd q.a1 q.a2 q.a3 q.a4 q.sk q.sn q.su q.sb q.sc q.sd q.si q.s1 q.s2 q.s3 q.s4 q.sr q.qV q.tj q.ti q.bj q.bi q.m q.qC q.ic q.nu q.cd q.on q.at_
 |6=>zHJ (bys bs) (ofNat p) e true q.k q.n q.bd q.a1 q.a2 q.a3 q.a4 q.sk q.sn q.su q.sb q.sc q.sd q.si q.s1 q.s2 q.s3 q.s4 q.sr q.qV q.tj q.ti q.bj q.bi q.m q.qC q.ic q.nu q.cd q.on q.at_
 |7=>zFh (bys bs) (ofNat p) e true q.k q.n q.bd q.a1 q.a2 q.a3 q.a4 q.sk q.sn q.su q.sb q.sc q.sd q.si q.s1 q.s2 q.s3 q.s4 q.sr q.qV q.tj q.ti q.bj q.bi q.m q.qC q.ic q.nu q.cd q.on q.at_
 |8=>zHF (bys bs) (ofNat p) e true q.k q.n q.bd q.a1 q.a2 q.a3 q.a4 q.sk q.sn q.su q.sb q.sc q.sd q.si q.s1 q.s2 q.s3 q.s4 q.sr q.qV q.tj q.ti q.bj q.bi q.m q.qC q.ic q.nu q.cd q.on q.at_
 |9=>zFp (bys bs) (ofNat p) e true q.k q.n q.bd q.a1 q.a2 q.a3 q.a4 q.sk q.sn q.su q.sb q.sc q.sd q.si q.s1 q.s2 q.s3 q.s4 q.sr q.qV q.tj q.ti q.bj q.bi q.m q.qC q.ic q.nu q.cd q.on q.at_
 |10=>zHL (bys bs) (ofNat p) e true q.k q.n q.bd q.a1 q.a2 q.a3 q.a4 q.sk q.sn q.su q.sb q.sc q.sd q.si q.s1 q.s2 q.s3 q.s4 q.sr q.qV q.tj q.ti q.bj q.bi q.m q.qC q.ic q.nu q.cd q.on q.at_
 |11=>zIO (bys bs) (ofNat p) e true q.k q.n q.bd q.a1 q.a2 q.a3 q.a4 q.sk q.sn q.su q.sb q.sc q.sd q.si q.s1 q.s2 q.s3 q.s4 q.sr q.qV q.tj q.ti q.bj q.bi q.m q.qC q.ic q.nu q.cd q.on q.at_
 |12=>zF6 (bys bs) (ofNat p) e true q.k q.n q.bd q.a1 q.a2 q.a3 q.a4 q.sk q.sn q.su q.sb q.sc q.sd q.si q.s1 q.s2 q.s3 q.s4 q.sr q.qV q.tj q.ti q.bj q.bi q.m q.qC q.ic q.nu q.cd q.on q.at_
 |_=>none
def uF(q r:Rc):Nat->Rc
 |0=>{q with n:=r.n}
 |1=>{q with bd:=r.bd}
 |2=>{q with a1:=r.a1,a2:=r.a2,a3:=r.a3,a4:=r.a4}
 |3=>{q with at_:=q.at_++r.at_}
 |4=>{q with sk:=r.sk,sn:=r.sn,su:=r.su,sb:=r.sb,sc:=r.sc,sd:=r.sd,si:=r.si,s1:=r.s1,s2:=r.s2,s3:=r.s3,s4:=r.s4,sr:=r.sr,qV:=r.qV}
 |5=>{q with tj:=r.tj,ti:=r.ti}
 |6=>{q with bj:=r.bj,bi:=r.bi}
 |7=>{q with m:=r.m}
 |8=>{q with qC:=r.qC}
 |9=>{q with ic:=r.ic}
 |10=>{q with nu:=r.nu}
 |11=>{q with cd:=r.cd}
 |_=>{q with on:=r.on}
def fR(r:Rc):Nat->Prop
 |0=>r.n.length<=65536
 |1=>0<=r.bd/\r.bd<=1073741824
 |2=>inA r.a1/\inA r.a2/\inA r.a3/\inA r.a4
 |3=>(∀v∈r.at_,zJm v)/\r.at_.length<=16
 |4=>∃x,spT r=x/\zBr r.sk r.sn r.su r.sb r.sc r.sd r.si r.s1 r.s2 r.s3 r.s4 r.sr r.qV=some (.qd [.str x,.int .i64 (ofNat 0)])/\x.length<=65536/\zEk x=some (.qd [.qf 13 [.agg [.int .i64 r.sk,.str r.sn,.str r.su,.int .i64 r.sb,.int .i64 r.sc,.int .i64 r.sd,.str r.si,.int .i64 r.s1,.int .i64 r.s2,.int .i64 r.s3,.int .i64 r.s4,.qf 6 r.sr,.int .i64 r.qV]],.agg [.int .i64 (ofNat 0),.int .i64 (ofNat 0)]])
 |5=>r.tj.length<=65536/\0<=r.ti/\r.ti<=1073741824
 |6=>r.bj.length<=65536/\0<=r.bi/\r.bi<=1073741824
 |7=>r.m.length<=65536
 |8=>r.qC.length<=65536
 |9=>0<=r.ic/\r.ic<18446744073709551616
 |10=>0<=r.nu/\r.nu<18446744073709551616
 |11=>0<=r.cd/\r.cd<=1073741824
 |_=>True
abbrev DQ:List D:=[.hc 0 false 31,.v (.i .i64),.v .s,.v (.i .i64),.v (.i .i64),.v (.i .i64),.v (.i .i64),.v (.i .i64),.v (.c (AV.sym 0)),.v (.i .i64),.v .s,.v .s,.v (.i .i64),.v (.i .i64),.v (.i .i64),.v .s,.v (.i .i64),.v (.i .i64),.v (.i .i64),.v (.i .i64),.v (.l 6),.v (.i .i64),.v .s,.v (.i .i64),.v .s,.v (.i .i64),.v .s,.v .s,.v (.i .u64),.v (.i .u64),.v (.i .i64),.v .b,.vec 0 2]
theorem zdr(n:Nat):wG 20 (.ptr 0 n) (.ptr 0 n)=true:=by simp[wG]
theorem dP{β:Type}{n:Nat}{q:Rc}{f:DT β DQ}:dD true (.v (.c (AV.ptr 0 n))::DQ) (some (.ptr 0 n,[(0,qH q)],[(0,.vec 2 q.at_)])) f=f q.k q.n q.bd q.a1 q.a2 q.a3 q.a4 q.sk q.sn q.su q.sb q.sc q.sd q.si q.s1 q.s2 q.s3 q.s4 q.sr q.qV q.tj q.ti q.bj q.bi q.m q.qC q.ic q.nu q.cd q.on q.at_:=by
 show(match wG 20 (.ptr 0 n) (.ptr 0 n)with|true=>din true DQ f [] [(0,qH q)] [(0,.vec 2 q.at_)]|false=>none)=_
 rw[zdr];rfl
theorem uwI{x:Int}(h0:0<=x)(h:x<18446744073709551616):ofNat (uw x)=x:=by unfold uw;rw[qr];omega
theorem uwL{x:Int}(h0:0<=x)(h:x<=1073741824):uw x<=1073741824:=by unfold uw;omega
theorem zKQ{bs:JV}{p:Nat}{x:Int}{t:JV}(hx:0<=x/\x<=1073741824)(h:Full bs p (uv (uw x)) t):zBb (bys bs) (ofNat p) 0 true=rS (.int .i64 x) bs (p+(uv (uw x)).length) 0:=by
 rw[zeR (uwL hx.1 hx.2) h,uwI hx.1 (by omega)]
theorem zXa{bs:JV}{p:Nat}{x:Int}{t:JV}(hx:0<=x/\x<18446744073709551616)(h:Full bs p (uv (uw x)) t):zAC (bys bs) (ofNat p) 0 true=rS (.int .u64 x) bs (p+(uv (uw x)).length) 0:=by
 rw[zVN (zQv x) h,uwI hx.1 hx.2]
section
variable{bs:JV}{p:Nat}{q r:Rc}
theorem zds{t:JV}(hr:fR r 0)(h:Full bs p (z3 r 0) t):gF bs p 0 q 0=gS bs (p+(z3 r 0).length) 0 (uF q r 0):=by
 rw[gF,zHi,zGL,dP,zEd hr h];rfl
theorem zdt{e:Int}(hr:fR r 0)(h:zAo bs p e (z3 r 0)):gF bs p e q 0=gS bs p 4 {q with n:=[]}:=by
 rw[gF,zHi,zGL,dP,zIx hr h];rfl
theorem zdu{t:JV}(hr:fR r 7)(h:Full bs p (z3 r 7) t):gF bs p 0 q 7=gS bs (p+(z3 r 7).length) 0 (uF q r 7):=by
 rw[gF,zHh,zGN,dP,zEd hr h];rfl
theorem zdv{e:Int}(hr:fR r 7)(h:zAo bs p e (z3 r 7)):gF bs p e q 7=gS bs p 4 {q with m:=[]}:=by
 rw[gF,zHh,zGN,dP,zIx hr h];rfl
theorem zdw{t:JV}(hr:fR r 8)(h:Full bs p (z3 r 8) t):gF bs p 0 q 8=gS bs (p+(z3 r 8).length) 0 (uF q r 8):=by
 rw[gF,zIZ,zGO,dP,zEd hr h];rfl
theorem zdx{e:Int}(hr:fR r 8)(h:zAo bs p e (z3 r 8)):gF bs p e q 8=gS bs p 4 {q with qC:=[]}:=by
 rw[gF,zIZ,zGO,dP,zIx hr h];rfl
theorem zdy{t:JV}(hr:fR r 1)(h:Full bs p (z3 r 1) t):gF bs p 0 q 1=gS bs (p+(z3 r 1).length) 0 (uF q r 1):=by
 rw[gF,zId,zGM,dP,zKQ hr h];rfl
theorem zdz{e:Int}(hr:fR r 1)(h:zAo bs p e (z3 r 1)):gF bs p e q 1=gS bs p 4 {q with bd:=0}:=by
 rw[gF,zId,zGM,dP,zLg (uwL hr.1 hr.2) h];rfl
theorem zbe{t:JV}(hr:fR r 11)(h:Full bs p (z3 r 11) t):gF bs p 0 q 11=gS bs (p+(z3 r 11).length) 0 (uF q r 11):=by
 rw[gF,zJH,zGR,dP,zKQ hr h];rfl
theorem zbf{e:Int}(hr:fR r 11)(h:zAo bs p e (z3 r 11)):gF bs p e q 11=gS bs p 4 {q with cd:=0}:=by
 rw[gF,zJH,zGR,dP,zLg (uwL hr.1 hr.2) h];rfl
theorem zdA{t:JV}(hr:fR r 9)(h:Full bs p (z3 r 9) t):gF bs p 0 q 9=gS bs (p+(z3 r 9).length) 0 (uF q r 9):=by
 rw[gF,zHm,zGP,dP,zXa hr h];rfl
theorem zdB{e:Int}(hr:fR r 9)(h:zAo bs p e (z3 r 9)):gF bs p e q 9=gS bs p 4 {q with ic:=0}:=by
 rw[gF,zHm,zGP,dP,zSL (zQv _) h];rfl
theorem zbg{t:JV}(hr:fR r 10)(h:Full bs p (z3 r 10) t):gF bs p 0 q 10=gS bs (p+(z3 r 10).length) 0 (uF q r 10):=by
 rw[gF,zI3,zGQ,dP,zXa hr h];rfl
theorem zbh{e:Int}(hr:fR r 10)(h:zAo bs p e (z3 r 10)):gF bs p e q 10=gS bs p 4 {q with nu:=0}:=by
 rw[gF,zI3,zGQ,dP,zSL (zQv _) h];rfl
theorem zdC{t:JV}(hr:fR r 5)(h:Full bs p (z3 r 5) t):gF bs p 0 q 5=gS bs (p+(z3 r 5).length) 0 (uF q r 5):=by
 have h:Full bs p (tv r.tj++uv (uw r.ti)) t:=h;rw[gF,zHl,zBg,dP,zEd hr.1 h.fst,zMQ,zBg,dP (q:={q with tj:=r.tj}),zKQ hr.2 h.snd,show p+(tv r.tj).length+(uv (uw r.ti)).length=p+(z3 r 5).length by show _=p+(tv r.tj++uv (uw r.ti)).length;rw[QE,Nat.add_assoc]]
 rfl
theorem zdD{e:Int}(hr:fR r 5)(h:zAo bs p e (z3 r 5)):∃g j,g<=bs.length/\gF bs p e q 5=gS bs g 4 {q with tj:=j,ti:=0}:=by
 have h:zAo bs p e (tv r.tj++uv (uw r.ti)):=h;rw[gF,zHl,zBg,dP];rcases h.two with d|⟨rfl,⟨t,f⟩,d⟩
 .refine⟨p,[],h.1,?_⟩
  rw[zIx hr.1 d,zMQ,zBg,dP (q:={q with tj:=[]}),zLg (uwL hr.2.1 hr.2.2) (d.four _)]
  rfl
 .refine⟨_,r.tj,f.le,?_⟩
  rw[zEd hr.1 f,zMQ,zBg,dP (q:={q with tj:=r.tj}),zLg (uwL hr.2.1 hr.2.2) d]
  rfl
theorem zdE{t:JV}(hr:fR r 6)(h:Full bs p (z3 r 6) t):gF bs p 0 q 6=gS bs (p+(z3 r 6).length) 0 (uF q r 6):=by
 have h:Full bs p (tv r.bj++uv (uw r.bi)) t:=h;rw[gF,zI2,zBh,dP,zEd hr.1 h.fst,zMQ,zBh,dP (q:={q with bj:=r.bj}),zKQ hr.2 h.snd,show p+(tv r.bj).length+(uv (uw r.bi)).length=p+(z3 r 6).length by show _=p+(tv r.bj++uv (uw r.bi)).length;rw[QE,Nat.add_assoc]]
 rfl
theorem zdF{e:Int}(hr:fR r 6)(h:zAo bs p e (z3 r 6)):∃g j,g<=bs.length/\gF bs p e q 6=gS bs g 4 {q with bj:=j,bi:=0}:=by
 have h:zAo bs p e (tv r.bj++uv (uw r.bi)):=h;rw[gF,zI2,zBh,dP];rcases h.two with d|⟨rfl,⟨t,f⟩,d⟩
 .refine⟨p,[],h.1,?_⟩
  rw[zIx hr.1 d,zMQ,zBh,dP (q:={q with bj:=[]}),zLg (uwL hr.2.1 hr.2.2) (d.four _)]
  rfl
 .refine⟨_,r.bj,f.le,?_⟩
  rw[zEd hr.1 f,zMQ,zBh,dP (q:={q with bj:=r.bj}),zLg (uwL hr.2.1 hr.2.2) d]
  rfl
theorem zbi{t:JV}(hr:fR r 12)(h:Full bs p (z3 r 12) t):gF bs p 0 q 12=gS bs (p+(z3 r 12).length) 0 (uF q r 12):=by
 rw[gF,zIc,zeS h];rfl
theorem zbj{e:Int}(hr:fR r 12)(h:zAo bs p e (z3 r 12)):gF bs p e q 12=gS bs p 4 {q with on:=false}:=by
 rw[gF,zIc,zeT h];rfl
theorem zdG{t:JV}(hr:fR r 2)(h:Full bs p (z3 r 2) t):gF bs p 0 q 2=gS bs (p+(z3 r 2).length) 0 (uF q r 2):=by
 have h:Full bs p (uv (2*r.a1.toNat)++(uv (2*r.a2.toNat)++(uv (2*r.a3.toNat)++uv (2*r.a4.toNat)))) t:=h;obtain⟨h1,h2,h3,h4⟩:=hr;rw[gF,zHj,zLh h1 h.fst,zHS,zLh h2 h.snd.fst,zHS,zLh h3 h.snd.snd.fst,zHS,zLh h4 h.snd.snd.snd,show p+(uv (2*r.a1.toNat)).length+(uv (2*r.a2.toNat)).length+(uv (2*r.a3.toNat)).length+(uv (2*r.a4.toNat)).length=p+(z3 r 2).length by show _=p+(uv (2*r.a1.toNat)++(uv (2*r.a2.toNat)++(uv (2*r.a3.toNat)++uv (2*r.a4.toNat)))).length;simp only[QE,Nat.add_assoc]]
 rfl
theorem zdH{e:Int}(hr:fR r 2)(h:zAo bs p e (z3 r 2)):∃g x y z,g<=bs.length/\gF bs p e q 2=gS bs g 4 {q with a1:=x,a2:=y,a3:=z,a4:=0}:=by
 have h:zAo bs p e (uv (2*r.a1.toNat)++(uv (2*r.a2.toNat)++(uv (2*r.a3.toNat)++uv (2*r.a4.toNat)))):=h;obtain⟨h1,h2,h3,h4⟩:=hr;rw[gF,zHj];rcases h.two with d|⟨rfl,⟨t,f⟩,d⟩
 .refine⟨p,0,0,0,h.1,?_⟩
  rw[zHa h1 d,zHS,zHa h2 (d.four _),zHS,zHa h3 (d.four _),zHS,zHa h4 (d.four _)];rfl
 rw[zLh h1 f,zHS];rcases d.two with d|⟨_,⟨t,f⟩,d⟩
 .refine⟨_,r.a1,0,0,d.1,?_⟩
  rw[zHa h2 d,zHS,zHa h3 (d.four _),zHS,zHa h4 (d.four _)];rfl
 rw[zLh h2 f,zHS];rcases d.two with d|⟨_,⟨t,f⟩,d⟩
 .refine⟨_,r.a1,r.a2,0,d.1,?_⟩
  rw[zHa h3 d,zHS,zHa h4 (d.four _)];rfl
 rw[zLh h3 f,zHS];refine⟨_,r.a1,r.a2,r.a3,d.1,?_⟩
 rw[zHa h4 d];rfl
theorem rm2{n:Nat}(h:n<=1000000):decide ((n+1)*32<=zc/\n+1<=zc)=true:=Qc (by unfold zc;omega)
theorem zYt(n:Nat):decide (ofNat (n+1) > 0)=true:=Qc (by rw[qr];omega)
noncomputable abbrev aL(bs:JV)(p:Nat)(e:Int)(q:Rc)(n m:Nat)(acc:JE):=zCV n (ofNat m) (bys bs) (ofNat p) e true q.k q.n q.bd q.a1 q.a2 q.a3 q.a4 q.sk q.sn q.su q.sb q.sc q.sd q.si q.s1 q.s2 q.s3 q.s4 q.sr q.qV q.tj q.ti q.bj q.bi q.m q.qC q.ic q.nu q.cd q.on acc
theorem zSN{n:Nat}{e:Int}{acc:JE}:aL bs p e q (n+1) 0 acc=gS bs p e {q with at_:=acc}:=by
 rw[aL,zDr,show decide (ofNat 0 > 0)=false from rfl,zj]
theorem zTl{n:Nat}{m:Nat}{acc:JE}:aL bs p 4 q (n+1) m acc=gS bs p 4 {q with at_:=acc}:=by
 cases m with
 |zero=>exact zSN
 |succ m=>
  rw[aL,zDr,zYt,zAs,zKA];rfl
theorem zQx{n m:Nat}{acc:JE}{s g:JV}{p1 p2:Nat}{e1 e2:Int}(j:acc.length<=1000000)(hm:m<=1000)
  (h1:zP (bys bs) (ofNat p) 0 true=rS (.str s) bs p1 e1) (h2:zP (bys bs) (ofNat p1) e1 true=rS (.str g) bs p2 e2):
  aL bs p 0 q (n+1) (m+1) acc=aL bs p2 e2 q n m (acc++[.agg [.str s,.str g]]):=by
 rw[aL,zDr,zYt,zAs,zKA,zHS,show((0:Int)==0)=true from rfl,zAs,zLM,h1,zMQ,h2,zMQ]
 show gd (decide ((acc.length+1)*32<=zc/\acc.length+1<=zc)) _=_
 rw[rm2 j,zGo,zCq (by omega) (by omega),Nat.add_sub_cancel]
 rfl
theorem zXb{t:JV}:∀(l:JE)(n p:Nat)(acc:JE),(∀v∈l,zJm v)->l.length<n->l.length+acc.length<=900->Full bs p (l.flatMap atE) t->aL bs p 0 q n l.length acc=gS bs (p+(l.flatMap atE).length) 0 {q with at_:=acc++l}
 |[],n,p,acc,hl,x,j,h=>by
  obtain⟨n,rfl⟩:∃m,n=m+1:=⟨n-1,by omega⟩
  rw[Qk];exact zSN
 |v::l,n,p,acc,hl,x,j,h=>by
  rw[QL]at x j;obtain⟨n,rfl⟩:∃m,n=m+1:=⟨n-1,by omega⟩
  obtain⟨s,g,rfl,z,A⟩:=hl v (.head _);have h:Full bs p ((tv s++tv g)++l.flatMap atE) t:=h;rw[QL,zQx (by omega) (by omega) (zEd z h.fst.fst) (zEd A h.fst.snd)]
  have h2:=h.snd;rw[QE,←Nat.add_assoc]at h2;rw[zXb l n _ _ (λv hv=>hl v (.tail _ hv)) (by omega) (by rw[QE];show l.length+(acc.length+1)<=900;omega) h2,QP]
  show gS bs _ 0 _=gS bs (p+((tv s++tv g)++l.flatMap atE).length) 0 _
  rw[QE,QE,←Nat.add_assoc,←Nat.add_assoc];rfl
theorem zXc:∀(l:JE)(n p:Nat)(e:Int)(acc:JE),(∀v∈l,zJm v)->l.length+1<n->l.length+acc.length<=900->Ats acc->zAo bs p e (l.flatMap atE)->∃H g,H<=bs.length/\Ats g/\aL bs p e q n l.length acc=gS bs H 4 {q with at_:=g}
 |[],n,p,e,acc,hl,E,F,A,h=>by
  obtain⟨n,rfl⟩:∃m,n=m+1:=⟨n-1,by omega⟩
  rcases h.2.2 with rfl|⟨_,t,I,z⟩
  .exact⟨p,acc,h.1,A,zSN⟩
  .exact absurd (List.append_eq_nil_iff.1 z).2 I
 |v::l,n,p,e,acc,hl,E,F,A,h=>by
  rw[QL]at E F;obtain⟨n,rfl⟩:∃m,n=m+1:=⟨n-1,by omega⟩
  obtain⟨n,rfl⟩:∃m,n=m+1:=⟨n-1,by omega⟩
  have x:∀s j,Ats (acc++[.agg [.str s,.str j]]):=λs j=>⟨λe z=>by
   rcases QI.1 z with z|z
   .exact A.1 e z
   .exact⟨s,j,QU.1 z⟩,by rw[QE];show acc.length+1<=_;omega⟩
  obtain⟨s,j,rfl,C,D⟩:=hl v (.head _);have h:zAo bs p e (tv s++(tv j++l.flatMap atE)):=by
   have h:zAo bs p e ((tv s++tv j)++l.flatMap atE):=h
   rwa [QP]at h
  by_cases h4:e=4
  .subst h4;exact⟨p,acc,h.1,A,zTl⟩
  have B:e=0:=h.2.2.elim (λq=>absurd q h4) (·.1)
  subst B;rcases h.two with d|⟨_,⟨t,f⟩,d⟩
  .refine⟨p,_,h.1,x [] [],?_⟩
   rw[QL,zQx (by omega) (by omega) (zIx C d) (zIx D (d.four _)),zTl]
  .rcases d.two with d|⟨_,⟨t2,f2⟩,d⟩
   .refine⟨_,_,d.1,x s [],?_⟩
    rw[QL,zQx (by omega) (by omega) (zEd C f) (zIx D d),zTl]
   .rw[QL,zQx (by omega) (by omega) (zEd C f) (zEd D f2)]
    exact zXc l (n+1) _ 0 _ (λv hv=>hl v (.tail _ hv)) (by omega) (by rw[QE];show l.length+(acc.length+1)<=900;omega) (x s j) d
theorem zdI{t:JV}(g:q.at_=[])(hr:fR r 3)(h:Full bs p (z3 r 3) t):gF bs p 0 q 3=gS bs (p+(z3 r 3).length) 0 (uF q r 3):=by
 have h:Full bs p (uv r.at_.length++r.at_.flatMap atE) t:=h;rw[gF,zIT,show zZ (ofNat 16) (bys bs) (ofNat p) 0 true=_ from zSM hr.2 (by decide) h.fst]
 refine(zXb (q:=q) r.at_ FUEL _ q.at_ hr.1 (zD (by have:=hr.2;omega)) (by have:=hr.2;rw[g];show r.at_.length+0<=900;omega) h.snd).trans ?_
 show _=gS bs (p+(uv r.at_.length++r.at_.flatMap atE).length) 0 _
 rw[QE,←Nat.add_assoc];rfl
theorem zdJ{e:Int}(l:Ats q.at_)(h0:e=0->q.at_=[])(hr:fR r 3)(h:zAo bs p e (z3 r 3)):∃j g,j<=bs.length/\Ats g/\gF bs p e q 3=gS bs j 4 {q with at_:=g}:=by
 have h:zAo bs p e (uv r.at_.length++r.at_.flatMap atE):=h;rw[gF,zIT];rcases h.two with d|⟨rfl,⟨t,f⟩,d⟩
 .refine⟨p,q.at_,h.1,l,?_⟩
  rw[show zZ (ofNat 16) (bys bs) (ofNat p) e true=_ from zZ6 hr.2 (by decide) d]
  rw[zHS,zL2];exact zSN
 .rw[show zZ (ofNat 16) (bys bs) (ofNat p) 0 true=_ from zSM hr.2 (by decide) f]
  exact zXc (q:=q) r.at_ FUEL _ 0 q.at_ hr.1 (zD (by have:=hr.2;omega)) (by have:=hr.2;rw[h0 rfl];show r.at_.length+0<=900;omega) l d
theorem zdK{t:JV}(hr:fR r 4)(h:Full bs p (z3 r 4) t):gF bs p 0 q 4=gS bs (p+(z3 r 4).length) 0 (uF q r 4):=by
 obtain⟨x,g,l,hl,j⟩:=hr;have h:Full bs p (tv (spT r)) t:=h;rw[g]at h;rw[gF,zI1,zEd hl h,zMQ,j];show dD true _ (zAN (bys bs) (ofNat (p+(tv x).length)) 0 true) _=_
 rw[zKA,zHS];show zFl _ _ _ _ _ _ _ _ _ _ _ _ _ _ _ _ _ _ _ _ _ _ _ _ _ _ _ _ _ _ _ _ _ _ _ _ _=_
 rw[zMK];show dK true y6 (zBr r.sk r.sn r.su r.sb r.sc r.sd r.si r.s1 r.s2 r.s3 r.s4 r.sr r.qV) _=_
 rw[l];show br (zi x x) _ _=_
 rw[zHY,zAs];show _=gS bs (p+(tv (spT r)).length) 0 _
 rw[g];rfl
theorem zdL{e:Int}(hr:fR r 4)(h:zAo bs p e (z3 r 4)):gF bs p e q 4=gS bs p 4 q:=by
 obtain⟨x,g,z,hl,s⟩:=hr;have h:zAo bs p e (tv (spT r)):=h;rw[g]at h;obtain⟨l,j⟩:=zZV;rw[gF,zI1,zIx hl h,zMQ,j];show dD true _ (zAN (bys bs) (ofNat p) 4 true) _=_
 rw[zKA];rfl
end
theorem zXd{bs:JV}{p:Nat}{q r:Rc}{t:JV}{f:Nat}(j:f<=12)(g:f=3->q.at_=[])(hr:fR r f)(h:Full bs p (z3 r f) t):gF bs p 0 q f=gS bs (p+(z3 r f).length) 0 (uF q r f):=by
 rcases(by omega:f=0\/f=1\/f=2\/f=3\/f=4\/f=5\/f=6\/f=7\/f=8\/f=9\/f=10\/f=11\/f=12)with rfl|rfl|rfl|rfl|rfl|rfl|rfl|rfl|rfl|rfl|rfl|rfl|rfl
 .exact zds hr h
 .exact zdy hr h
 .exact zdG hr h
 .exact zdI (g rfl) hr h
 .exact zdK hr h
 .exact zdC hr h
 .exact zdE hr h
 .exact zdu hr h
 .exact zdw hr h
 .exact zdA hr h
 .exact zbg hr h
 .exact zbe hr h
 .exact zbi hr h
theorem zXe{bs:JV}{p:Nat}{e:Int}{q r:Rc}{f:Nat}(C:f<=12)(g:TyC q)(D:r.qC.length<=1000)(B:e=0->f=3->q.at_=[])(hr:fR r f)(h:zAo bs p e (z3 r f)):∃j A,j<=bs.length/\TyC A/\gF bs p e q f=gS bs j 4 A:=by
 have l:=h.1;rcases(by omega:f=0\/f=1\/f=2\/f=3\/f=4\/f=5\/f=6\/f=7\/f=8\/f=9\/f=10\/f=11\/f=12)with rfl|rfl|rfl|rfl|rfl|rfl|rfl|rfl|rfl|rfl|rfl|rfl|rfl
 .exact⟨p,{q with n:=[]},l,⟨g.at_,g.sr,g.qC⟩,zdt (q:=q) hr h⟩
 .exact⟨p,{q with bd:=0},l,⟨g.at_,g.sr,g.qC⟩,zdz (q:=q) hr h⟩
 .obtain⟨j,x,y,z,h1,h2⟩:=zdH (q:=q) hr h;exact⟨j,{q with a1:=x,a2:=y,a3:=z,a4:=0},h1,⟨g.at_,g.sr,g.qC⟩,h2⟩
 .obtain⟨j,a,h1,h2,h3⟩:=zdJ (q:=q) g.at_ (λe=>B e rfl) hr h
  exact⟨j,{q with at_:=a},h1,⟨h2,g.sr,g.qC⟩,h3⟩
 .exact⟨p,q,l,g,zdL (q:=q) hr h⟩
 .obtain⟨j,s,h1,h2⟩:=zdD (q:=q) hr h;exact⟨j,{q with tj:=s,ti:=0},h1,⟨g.at_,g.sr,g.qC⟩,h2⟩
 .obtain⟨j,s,h1,h2⟩:=zdF (q:=q) hr h;exact⟨j,{q with bj:=s,bi:=0},h1,⟨g.at_,g.sr,g.qC⟩,h2⟩
 .exact⟨p,{q with m:=[]},l,⟨g.at_,g.sr,g.qC⟩,zdv (q:=q) hr h⟩
 .exact⟨p,{q with qC:=[]},l,⟨g.at_,g.sr,QN _⟩,zdx (q:=q) hr h⟩
 .exact⟨p,{q with ic:=0},l,⟨g.at_,g.sr,g.qC⟩,zdB (q:=q) hr h⟩
 .exact⟨p,{q with nu:=0},l,⟨g.at_,g.sr,g.qC⟩,zbh (q:=q) hr h⟩
 .exact⟨p,{q with cd:=0},l,⟨g.at_,g.sr,g.qC⟩,zbf (q:=q) hr h⟩
 .exact⟨p,{q with on:=false},l,⟨g.at_,g.sr,g.qC⟩,zbj (q:=q) hr h⟩
end Go.Proofs.YtjfcepbllmdfcaaGreatDoor.record
namespace Go.Proofs.YtjfcepbllmdfcaaGreatDoor.record
open Go Go.Sy
variable[MX]
noncomputable abbrev oL(bs l:JV)(n i p:Nat)(e:Int)(q:Rc):=zJ n (kI l) (ofNat l.length) (ofNat i) (bys bs) (ofNat p) e true q.k q.n q.bd q.a1 q.a2 q.a3 q.a4 q.sk q.sn q.su q.sb q.sc q.sd q.si q.s1 q.s2 q.s3 q.s4 q.sr q.qV q.tj q.ti q.bj q.bi q.m q.qC q.ic q.nu q.cd q.on (ofNat 0) [] (ofNat 0) (ofNat 0) (ofNat 0) (ofNat 0) (ofNat 0) (ofNat 0) [] [] (ofNat 0) (ofNat 0) (ofNat 0) [] (ofNat 0) (ofNat 0) (ofNat 0) (ofNat 0) (ofNat 0) [] (ofNat 0) [] (ofNat 0) [] [] (ofNat 0) (ofNat 0) (ofNat 0) false q.at_
theorem zNS{bs:JV}{l:JV}{n i p:Nat}{e:Int}{q:Rc}{s:Nat}{j:Int}{x:Rc}(hi:i<l.length)(hl:l.length<=13)(g:l[i]<=12)(h:gF bs p e q l[i]=gS bs s j x):oL bs l (n+1) i p e q=oL bs l n (i+1) s j x:=by
 rw[oL,zFt];have z:ixN (kI l) (ofNat i)=some (.int .i64 (ofNat l[i])):=by
  rw[zA2 (by rw[QG];exact hi),List.getElem_map]
 rw[show decide (ofNat i<ofNat l.length)=true from Qc (Int.ofNat_lt.2 hi),zAs,z,zTx,zm (by omega)]
 generalize l[i]=f at g h;rcases(by omega:f=0\/f=1\/f=2\/f=3\/f=4\/f=5\/f=6\/f=7\/f=8\/f=9\/f=10\/f=11\/f=12)with rfl|rfl|rfl|rfl|rfl|rfl|rfl|rfl|rfl|rfl|rfl|rfl|rfl
 all_goals
  rw[gF]at h;show dD true _ _ _=_
  rw[h];rfl
theorem zVO{bs:JV}{l:JV}{n p:Nat}{q:Rc}(g:TyC q):oL bs l (n+1) l.length p 4 q=rS q.av bs p 4:=by
 rw[oL,zFt,show decide (ofNat l.length<ofNat l.length)=false from Qd (Int.lt_irrefl _),zj]
 obtain⟨_,e,c,rfl,_⟩:=zW6 q g;rw[e,zTx];cases (c != 0)with
 |true=>
  rw[zAs,zTk];rfl
 |false=>rfl
theorem zbk{bs:JV}{l:JV}{n p:Nat}{q:Rc}(g:chk q):oL bs l (n+1) l.length p 0 q=rS q.av bs p 0:=by
 rw[oL,zFt,show decide (ofNat l.length<ofNat l.length)=false from Qd (Int.lt_irrefl _),zj,g.2,zTx]
 rfl
theorem zXf:Ats []:=⟨λe g=>(by cases g),by decide⟩
theorem zft{bs:JV}{l:JV}{r:Rc}(hl:∀f∈l,f<=12/\fR r f)(z:l.length<=13)(hr:r.qC.length<=1000)(hb:bs.length<=40000000000000):∀(n i p:Nat)(q:Rc),i<=l.length->l.length-i<n->p<=bs.length->TyC q->∃(g:Nat) (j:Rc),g<=bs.length/\oL bs l n i p 4 q=rS j.av bs g 4:=by
 intro n
 induction n with
 |zero=>intro i p q _ h;omega
 |succ n A=>
  intro i p q hi B x s;rcases Nat.lt_or_ge i l.length with h|h
  .obtain⟨h1,h2⟩:=hl _ (Qg h);obtain⟨g,j,a1,a2,a3⟩:=zXe (bs:=bs) (p:=p) (e:=4) (q:=q) h1 s hr (λe=>by cases e) h2 ⟨x,hb,.inl rfl⟩
   rw[zNS h z h1 a3];exact A (i+1) g j h (by omega) a1 a2
  .obtain rfl:i=l.length:=by omega
   exact⟨p,q,x,zVO s⟩
theorem zgt{q r:Rc}{f:Nat}:(uF q r f).k=q.k:=by unfold uF;split<;>rfl
theorem zfu{q r:Rc}{f:Nat}(j:f<=12)(g:f=3->q.at_=[]):sm (uF q r f) r f:=by
 rcases(by omega:f=0\/f=1\/f=2\/f=3\/f=4\/f=5\/f=6\/f=7\/f=8\/f=9\/f=10\/f=11\/f=12)with rfl|rfl|rfl|rfl|rfl|rfl|rfl|rfl|rfl|rfl|rfl|rfl|rfl
 .exact rfl
 .exact rfl
 .exact⟨rfl,rfl,rfl,rfl⟩
 .show q.at_++r.at_=r.at_
  rw[g rfl,List.nil_append]
 .exact⟨rfl,rfl,rfl,rfl,rfl,rfl,rfl,rfl,rfl,rfl,rfl,rfl,rfl⟩
 .exact⟨rfl,rfl⟩
 .exact⟨rfl,rfl⟩
 all_goals exact rfl
theorem zVP{q r:Rc}{f g:Nat}(j:f<=12)(l:g<=12)(h:f≠g):(sm q r g->sm (uF q r f) r g)/\(zF q g->zF (uF q r f) g):=by
 rcases(by omega:f=0\/f=1\/f=2\/f=3\/f=4\/f=5\/f=6\/f=7\/f=8\/f=9\/f=10\/f=11\/f=12)with rfl|rfl|rfl|rfl|rfl|rfl|rfl|rfl|rfl|rfl|rfl|rfl|rfl
 all_goals (rcases(by omega:g=0\/g=1\/g=2\/g=3\/g=4\/g=5\/g=6\/g=7\/g=8\/g=9\/g=10\/g=11\/g=12)with rfl|rfl|rfl|rfl|rfl|rfl|rfl|rfl|rfl|rfl|rfl|rfl|rfl<;>first|exact absurd rfl h|exact⟨λh=>h,λh=>h⟩)
structure IvR(q r:Rc)(l:JV)(i:Nat):Prop where
 k:q.k=r.k
 s:∀f,f<=12->f∈l.take i->sm q r f
 z:∀f,f<=12->f ∉ l.take i->zF q f
theorem IvR.step{q r:Rc}{l:JV}{i:Nat}(h:IvR q r l i)(hi:i<l.length)(hd:l.Nodup)(x:l[i]<=12):IvR (uF q r l[i]) r l (i+1)/\(l[i]=3->q.at_=[]):=by
 have B:l[i] ∉ l.take i:=λg=>by
  obtain⟨j,E,e⟩:=List.getElem_of_mem g;rw[Qj]at E;rw[List.getElem_take]at e;exact List.pairwise_iff_getElem.1 hd j i (by omega) hi (by omega) e
 have C:l[i]=3->q.at_=[]:=λe=>(show zF q 3 from h.z 3 (by decide) (e▸B))
 have D:l.take (i+1)=l.take i++[l[i]]:=List.take_succ_eq_append_getElem hi;refine⟨⟨zgt.trans h.k,λf A g=>?_,λf A g=>?_⟩,C⟩
 .rw[D]at g;by_cases e:l[i]=f
  .rw[←e];exact zfu x C
  .refine(zVP x A e).1 (h.s f A ?_)
   rcases QI.1 g with g|g
   .exact g
   .exact absurd (QU.1 g).symm e
 .rw[D]at g;have e:l[i]≠f:=λe=>g (QI.2 (.inr (e▸.head _)))
  exact(zVP x A e).2 (h.z f A λq=>g (QI.2 (.inl q)))
theorem IvR.end_{q r:Rc}(h:IvR q r (hasM r.k) (hasM r.k).length)(l:vN r):q=r:=by
 refine zeM h.k λf g=>?_
 by_cases j:f∈hasM r.k
 .exact h.s f g (by rw[List.take_length];exact j)
 .exact zdo f g (h.z f g (by rw[List.take_length];exact j)) ((l.2 f g).2 j)
theorem IvR.ty{q r:Rc}{l:JV}{i:Nat}(h:IvR q r l i)(hr:TyC r):TyC q:=by
 have key:∀f,f<=12->sm q r f\/zF q f:=λf j=>by
  by_cases g:f∈l.take i
  .exact .inl (h.s f j g)
  .exact .inr (h.z f j g)
 refine⟨?_,?_,?_⟩
 .rcases key 3 (by decide)with e|e
  .rw[show q.at_=r.at_ from e];exact hr.at_
  .rw[show q.at_=[]from e];exact zXf
 .rcases key 4 (by decide)with e|e
  .unfold sm at e;simp only at e;rw[e.2.2.2.2.2.2.2.2.2.2.2.1];exact hr.sr
  .unfold zF at e;simp only at e;rw[e.2.2.2.2.2.2.2.2.1];exact⟨λe x=>(by cases x),by decide⟩
 .rcases key 8 (by decide)with e|e
  .rw[show q.qC=r.qC from e];exact hr.qC
  .rw[show q.qC=[]from e];exact QN _
theorem zUc{r:Rc}{l:JV}{i:Nat}(hi:i<l.length):zIX r (l.drop i)=z3 r l[i]++zIX r (l.drop (i+1)):=by rw[Qo hi];rfl
theorem zbl{bs:JV}{r:Rc}{l:JV}(A:hasM r.k=l)(hc:chk r)(hl:∀f∈l,f<=12/\fR r f)(x:l.length<=13)(hd:l.Nodup){t:JV}:∀(n i p:Nat)(q:Rc),i<=l.length->l.length-i<n->IvR q r l i->Full bs p (zIX r (l.drop i)) t->oL bs l n i p 0 q=rS r.av bs (p+(zIX r (l.drop i)).length) 0:=by
 intro n
 induction n with
 |zero=>intro i p q _ h;omega
 |succ n z=>
  intro i p q hi B j h;rcases Nat.lt_or_ge i l.length with g|s
  .obtain⟨h1,h2⟩:=hl _ (Qg g);have ⟨s1,s2⟩:=j.step g hd h1;rw[zUc g]at h⊢;rw[zNS g x h1 (zXd h1 s2 h2 h.fst),z (i+1) _ _ g (by omega) s1 h.snd,QE,Nat.add_assoc]
  .obtain rfl:i=l.length:=by omega
   subst A;obtain rfl:=j.end_ hc.1;rw[List.drop_length];exact zbk hc
theorem zbm{bs:JV}{r:Rc}{l:JV}(hr:TyC r)(hl:∀f∈l,f<=12/\fR r f)(s:l.length<=13)(hd:l.Nodup):∀(n i p:Nat)(q:Rc),i<=l.length->l.length-i<n->IvR q r l i->zAo bs p 0 (zIX r (l.drop i))->∃(j:Nat) (x:Rc),j<=bs.length/\oL bs l n i p 0 q=rS x.av bs j 4:=by
 intro n
 induction n with
 |zero=>intro i p q _ h;omega
 |succ n D=>
  intro i p q hi E z h;rcases Nat.lt_or_ge i l.length with g|A
  .obtain⟨h1,h2⟩:=hl _ (Qg g);have ⟨s1,s2⟩:=z.step g hd h1;rw[zUc g]at h;rcases h.two with d|⟨_,⟨t,f⟩,d⟩
   .obtain⟨j,x,a1,a2,a3⟩:=zXe (bs:=bs) (p:=p) (e:=0) (q:=q) h1 (z.ty hr) hr.qC (λ_=>s2) h2 d
    rw[zNS g s h1 a3];exact zft hl s hr.qC h.2.1 n (i+1) j x g (by omega) a1 a2
   .rw[zNS g s h1 (zXd h1 s2 h2 f)];exact D (i+1) _ _ g (by omega) s1 d
  .obtain rfl:i=l.length:=by omega
   rw[List.drop_length]at h;rcases h.2.2 with h|⟨_,t,B,C⟩
   .cases h
   .exact absurd (List.append_eq_nil_iff.1 C).2 B
theorem zZ7(k:Int):(hasM k).Nodup:=by
 by_cases h1:k=1
 .subst h1;decide
 by_cases h2:k=2
 .subst h2;decide
 by_cases h3:k=3
 .subst h3;decide
 by_cases h4:k=4
 .subst h4;decide
 by_cases h8:k=8
 .subst h8;decide
 by_cases E:k=5
 .subst E;decide
 by_cases B:k=6
 .subst B;decide
 by_cases C:k=9
 .subst C;decide
 by_cases l:k=15
 .subst l;decide
 by_cases D:k=7
 .subst D;decide
 by_cases j:k=10
 .subst j;decide
 by_cases z:k=11
 .subst z;decide
 by_cases s:k=12
 .subst s;decide
 by_cases g:k=13
 .subst g;decide
 by_cases A:k=16
 .subst A;decide
 by_cases x:k=14
 .subst x;decide
 rw[zQw h1 h2 h3 h4 h8 E B C l D j z s g A x];decide
theorem zbR{k:Int}(h:hasM k≠[]):0<=k/\k<=1073741824:=by
 by_cases h1:k=1
 .omega
 by_cases h2:k=2
 .omega
 by_cases h3:k=3
 .omega
 by_cases h4:k=4
 .omega
 by_cases h8:k=8
 .omega
 by_cases E:k=5
 .omega
 by_cases B:k=6
 .omega
 by_cases C:k=9
 .omega
 by_cases l:k=15
 .omega
 by_cases D:k=7
 .omega
 by_cases j:k=10
 .omega
 by_cases z:k=11
 .omega
 by_cases s:k=12
 .omega
 by_cases g:k=13
 .omega
 by_cases A:k=16
 .omega
 by_cases x:k=14
 .omega
 exact absurd (zQw h1 h2 h3 h4 h8 E B C l D j z s g A x) h
def zR(k:Int):Rc:={k:=k,n:=[],bd:=(ofNat 0),a1:=(ofNat 0),a2:=(ofNat 0),a3:=(ofNat 0),a4:=(ofNat 0),at_:=[],sk:=(ofNat 0),sn:=[],su:=[],sb:=(ofNat 0),sc:=(ofNat 0),sd:=(ofNat 0),si:=[],s1:=(ofNat 0),s2:=(ofNat 0),s3:=(ofNat 0),s4:=(ofNat 0),sr:=[],qV:=(ofNat 0),tj:=[],ti:=(ofNat 0),bj:=[],bi:=(ofNat 0),m:=[],qC:=[],ic:=(ofNat 0),nu:=(ofNat 0),cd:=(ofNat 0),on:=false}
theorem zZ8{r:Rc}:IvR (zR r.k) r (hasM r.k) 0:=by
 refine⟨rfl,λf _ h=>(by cases h),λf g _=>?_⟩
 rcases(by omega:f=0\/f=1\/f=2\/f=3\/f=4\/f=5\/f=6\/f=7\/f=8\/f=9\/f=10\/f=11\/f=12)with rfl|rfl|rfl|rfl|rfl|rfl|rfl|rfl|rfl|rfl|rfl|rfl|rfl
 .exact rfl
 .exact rfl
 .exact⟨rfl,rfl,rfl,rfl⟩
 .exact rfl
 .exact⟨rfl,rfl,rfl,rfl,rfl,rfl,rfl,⟨rfl,rfl,rfl,rfl⟩,rfl,rfl⟩
 .exact⟨rfl,rfl⟩
 .exact⟨rfl,rfl⟩
 all_goals exact rfl
theorem zfv{k:Int}:TyC (zR k):=⟨zXf,⟨λe g=>(by cases g),by show 0<=2000000;decide⟩,QN _⟩
theorem zSO{bs:JV}{p:Nat}{r:Rc}{t:JV}(hc:chk r)(hl:∀f∈hasM r.k,fR r f)(h:Full bs p (zJX r) t):zF9 (bys bs) (ofNat p) 0 true=rS r.av bs (p+(zJX r).length) 0:=by
 have h:Full bs p (uv (uw r.k)++zIX r (hasM r.k)) t:=h;have h2:=zLf r.k;rw[zMq,zKQ (zbR hc.1.1) h.fst];show dK true [K.l 1] (zBO r.k) _=_
 have e0:(ofNat (kI (hasM r.k)).length==0)=false:=nbq (by
  rw[QG,qr];have:=List.length_pos_iff.2 hc.1.1;omega)
 rw[zSI hc.1.1,zDl,e0,zj,zGc,QG];have e:=zbl (bs:=bs) (l:=hasM r.k) rfl hc (λf g=>⟨h2.1 f g,hl f g⟩) h2.2 (zZ7 _) FUEL 0 _ (zR r.k) (QN _) (zD (by omega)) zZ8 (by rw[List.drop_zero];exact h.snd)
 rw[List.drop_zero]at e;refine e.trans ?_
 show rS r.av bs _ 0=rS r.av bs (p+(uv (uw r.k)++zIX r (hasM r.k)).length) 0
 rw[QE,Nat.add_assoc]
theorem zYf{bs:JV}{p:Nat}{r:Rc}(hr:TyC r)(hc:chk r)(hl:∀f∈hasM r.k,fR r f)(h:zAo bs p 0 (zJX r)):∃g j,g<=bs.length/\zF9 (bys bs) (ofNat p) 0 true=rS (Rc.av j) bs g 4:=by
 have h:zAo bs p 0 (uv (uw r.k)++zIX r (hasM r.k)):=h;have h2:=zLf r.k;have s:=zbR hc.1.1;rw[zMq];rcases h.two with d|⟨_,⟨t,f⟩,d⟩
 .rw[zLg (uwL s.1 s.2) d];show ∃g j,g<=bs.length/\dK true [K.l 1] (zBO (ofNat 0)) _=rS (Rc.av j) bs g 4
  rw[zYa];show ∃g j,g<=bs.length/\dD true _ (zA4 (ofNat 5) (bys bs) (ofNat p) 4 true) _=rS (Rc.av j) bs g 4
  rw[zTk];show ∃g j,g<=bs.length/\zFM [] (bys bs) (ofNat p) 4 true (ofNat 0) [] (ofNat 0) (ofNat 0) (ofNat 0) (ofNat 0) (ofNat 0) (ofNat 0) [] [] (ofNat 0) (ofNat 0) (ofNat 0) [] (ofNat 0) (ofNat 0) (ofNat 0) (ofNat 0) [] (ofNat 0) [] (ofNat 0) [] (ofNat 0) [] [] (ofNat 0) (ofNat 0) (ofNat 0) false (ofNat 0) [] (ofNat 0) (ofNat 0) (ofNat 0) (ofNat 0) (ofNat 0) (ofNat 0) [] [] (ofNat 0) (ofNat 0) (ofNat 0) [] (ofNat 0) (ofNat 0) (ofNat 0) (ofNat 0) (ofNat 0) [] (ofNat 0) [] (ofNat 0) [] [] (ofNat 0) (ofNat 0) (ofNat 0) false=rS (Rc.av j) bs g 4
  rw[zGc,zL2];exact⟨p,_,h.1,zVO (bs:=bs) (l:=[]) (p:=p) (q:=zR 0) zfv⟩
 .rw[zKQ s f];show ∃g j,g<=bs.length/\dK true [K.l 1] (zBO r.k) _=rS (Rc.av j) bs g 4
  have e0:(ofNat (kI (hasM r.k)).length==0)=false:=nbq (by
   rw[QG,qr];have:=List.length_pos_iff.2 hc.1.1;omega)
  rw[zSI hc.1.1,zDl,e0,zj,zGc,QG];exact zbm (bs:=bs) (l:=hasM r.k) hr (λf x=>⟨h2.1 f x,hl f x⟩) h2.2 (zZ7 _) FUEL 0 _ (zR r.k) (QN _) (zD (by omega)) zZ8 (by rw[List.drop_zero];exact d)
theorem rm31{n:Nat}(h:n<=1000000):decide ((n+1)*344<=zc/\n+1<=zc)=true:=Qc (by unfold zc;omega)
theorem zTm{bs:JV}{n m p:Nat}{acc:JE}{q:Rc}{g:Nat}{j:Int}(l:acc.length<=1000000)(hm:m<=1000)(h:zF9 (bys bs) (ofNat p) 0 true=rS q.av bs g j):
  zAa (n+1) (ofNat (m+1)) (bys bs) (ofNat p) 0 true acc=zAa n (ofNat m) (bys bs) (ofNat g) j true (acc++[q.av]):=by
 rw[zEQ,zYt,zAs,zKA];show zHM n (ofNat (m+1)) (bys bs) (ofNat p) 0 true acc=_
 rw[zOZ,h];show gd (decide ((acc.length+1)*344<=zc/\acc.length+1<=zc)) (zAa n (wrapx IntKind.i64 (ofNat (m+1)-1)) _ _ _ _ _)=_
 rw[rm31 l,zGo,zCq (by omega) (by omega),Nat.add_sub_cancel]
 rfl
theorem zQy{bs:JV}{n m p:Nat}{acc:JE}:zAa (n+1) (ofNat m) (bys bs) (ofNat p) 4 true acc=some (.qd [.qa,.int .i64 4]):=by
 rw[zEQ];cases m with
 |zero=>
  rw[show decide (ofNat 0 > 0)=false from rfl,zj,zW9]
  rfl
 |succ m=>
  rw[zYt,zAs,zKA];show dD true _ (zBF (bys bs) (ofNat p) 4 true) _=_
  rw[zW9];rfl
theorem zeV{bs:JV}{n p:Nat}{acc:JE}:zAa (n+1) (ofNat 0) (bys bs) (ofNat p) 0 true acc=if p<bs.length then some (.qd [.qa,.int .i64 5])else some (.qd [.qf 31 acc,.int .i64 (ofNat 0)]):=by
 rw[zEQ,show decide (ofNat 0 > 0)=false from rfl,zj,zeU]
 by_cases h:p<bs.length
 .rw[if_pos h,if_pos h];rfl
 .rw[if_neg h,if_neg h];rfl
structure RB(r:Rc):Prop where
 t:TyC r
 c:chk r
 f:∀f∈hasM r.k,fR r f
theorem zXg{bs t:JV}:∀(g:List Rc)(n p:Nat)(acc:JE),(∀r∈g,RB r)->g.length<n->g.length+acc.length<=900->Full bs p (zJn g) t->zAa n (ofNat g.length) (bys bs) (ofNat p) 0 true acc=if t=[]then some (.qd [.qf 31 (acc++g.map Rc.av),.int .i64 (ofNat 0)])else some (.qd [.qa,.int .i64 5])
 |[],n,p,acc,hl,j,l,h=>by
  obtain⟨n,rfl⟩:∃m,n=m+1:=⟨n-1,by omega⟩
  have e:=congrArg List.length h.2.2;rw[Qn]at e;have e:bs.length-p=t.length:=e;show zAa (n+1) (ofNat 0) (bys bs) (ofNat p) 0 true acc=_
  rw[zeV];have:=h.1;cases t with
  |nil=>
   have e:bs.length-p=0:=e;rw[if_neg (by omega),if_pos rfl]
   show _=some (AV.qd [.qf 31 (acc++[]),_])
   rw[Qk]
  |cons a t=>
   rw[QL]at e;rw[if_pos (by omega),if_neg (List.cons_ne_nil _ _)]
 |r::g,n,p,acc,hl,j,l,h=>by
  rw[QL]at j l;obtain⟨n,rfl⟩:∃m,n=m+1:=⟨n-1,by omega⟩
  have h:Full bs p (zJX r++zJn g) t:=h;obtain⟨z,x,s⟩:=hl r (.head _);rw[QL,zTm (by omega) (by omega) (zSO x s h.fst),zXg g n _ _ (λv hv=>hl v (.tail _ hv)) (by omega) (by rw[QE];show g.length+(acc.length+1)<=900;omega) h.snd,QP]
  rfl
theorem zXh{bs:JV}:∀(g:List Rc)(n p:Nat)(e:Int)(acc:JE),(∀r∈g,RB r)->g.length+1<n->g.length+acc.length<=900->zAo bs p e (zJn g)->zAa n (ofNat g.length) (bys bs) (ofNat p) e true acc=some (.qd [.qa,.int .i64 4])
 |[],n,p,e,acc,hl,s,z,h=>by
  obtain⟨n,rfl⟩:∃m,n=m+1:=⟨n-1,by omega⟩
  rcases h.2.2 with rfl|⟨_,t,B,C⟩
  .exact zQy
  .exact absurd (List.append_eq_nil_iff.1 C).2 B
 |r::g,n,p,e,acc,hl,s,z,h=>by
  rw[QL]at s z;obtain⟨n,rfl⟩:∃m,n=m+1:=⟨n-1,by omega⟩
  obtain⟨n,rfl⟩:∃m,n=m+1:=⟨n-1,by omega⟩
  by_cases h4:e=4
  .subst h4;exact zQy
  have j:e=0:=h.2.2.elim (λq=>absurd q h4) (·.1)
  subst j;have h:zAo bs p 0 (zJX r++zJn g):=h;obtain⟨A,x,l⟩:=hl r (.head _);rcases h.two with d|⟨_,⟨t,f⟩,d⟩
  .obtain⟨D,E,a1,a2⟩:=zYf A x l d;rw[QL,zTm (by omega) (by omega) a2,zQy]
  .rw[QL,zTm (by omega) (by omega) (zSO x l f)]
   exact zXh g (n+1) _ 0 _ (λv hv=>hl v (.tail _ hv)) (by omega) (by rw[QE];show g.length+(acc.length+1)<=900;omega) d
noncomputable abbrev zAY(g:List Rc):JV:=uv g.length++zJn g
theorem ze8{bs:JV}:zNT (bys bs)=rS (.ptr 0 0) bs 0 0:=by rw[zUn];rfl
theorem nzN{n:Nat}(h:n≠0):(ofNat n==0)=false:=nbq (by rw[qr];omega)
theorem zUd(g:List Rc)(hl:∀r∈g,RB r)(h0:g≠[])(j:g.length<=512)(t:JV)(hb:(zAY g++t).length<=40000000000000):zA6 (bys (zAY g++t))=if t=[]then some (.qd [.qf 31 (g.map Rc.av),.int .i64 (ofNat 0)])else some (.qd [.qa,.int .i64 5]):=by
 have h:Full (zAY g++t) 0 (uv g.length++zJn g) t:=⟨QN _,hb,rfl⟩;have l:g.length≠0:=λe=>h0 (List.length_eq_zero_iff.1 e)
 rw[zLx,ze8];show dK true [K.c zYr] zBR _=_
 rw[vS,show zZ (ofNat 512) (bys (zAY g++t)) (ofNat 0) 0 true=_ from zSM j (by decide) h.fst]
 show br (ofNat g.length==0) _ _=_
 rw[nzN l,zj,zFu];exact zXg g FUEL _ [] hl (zD (by omega)) (by show g.length+0<=900;omega) h.snd
theorem zYg(g:List Rc)(hl:∀r∈g,RB r)(h0:g≠[])(j:g.length<=512)(w:JV)(l:Cut w (zAY g))(hb:w.length<=40000000000000):zA6 (bys w)=some (.qd [.qa,.int .i64 4]):=by
 have h:zAo w 0 0 (uv g.length++zJn g):=⟨QN _,hb,.inr ⟨rfl,l⟩⟩;have s:g.length≠0:=λe=>h0 (List.length_eq_zero_iff.1 e)
 rw[zLx,ze8];show dK true [K.c zYr] zBR _=_
 rw[vS];rcases h.two with d|⟨_,⟨t,f⟩,d⟩
 .rw[show zZ (ofNat 512) (bys w) (ofNat 0) 0 true=_ from zZ6 j (by decide) d]
  show dD true _ (zA4 (ofNat 5) (bys w) (ofNat 0) 4 true) _=_
  rw[zTk];show zEO (ofNat 0) (bys w) (ofNat 0) 4 true=_
  rw[zFu,zL2];exact zQy
 .rw[show zZ (ofNat 512) (bys w) (ofNat 0) 0 true=_ from zSM j (by decide) f]
  show br (ofNat g.length==0) _ _=_
  rw[nzN s,zj,zFu];exact zXh g FUEL _ 0 [] hl (zD (by omega)) (by show g.length+0<=900;omega) d
structure Ty0(r:Rc):Prop where
 k:i64 r.k
 bd:i64 r.bd
 ti:i64 r.ti
 bi:i64 r.bi
 cd:i64 r.cd
 ic:u64 r.ic
 nu:u64 r.nu
 n:r.n.length<=2000000
 m:r.m.length<=2000000
 qC:r.qC.length<=2000000
 tj:r.tj.length<=2000000
 bj:r.bj.length<=2000000
 at_:Ats r.at_
 sr:NdB r.sr
theorem zYu{a b:Nat}(h:a+b<=20000000):wrapx IntKind.i64 (ofNat a+ofNat b)=ofNat (a+b):=by
 rw[zI (by simp only[qr];omega) (by simp only[qr];omega)]
 rfl
theorem zYh(g:List Rc)(A:∀r∈g,Ty0 r)(M:g.length<=2000000):∀(n i:Nat),i<=g.length->g.length-i<n->(∀j (h:j<g.length),j<i->Ty g[j])->Wp (zBo n (g.map Rc.av) (ofNat i)) (isQ ((∀r∈g,Ty r)/\g.length<=600)):=by
 have no:Wp (some (AV.bool false)) (isQ ((∀r∈g,Ty r)/\g.length<=600)):=Wb ⟨_,rfl,λh=>by cases h⟩
 intro n
 induction n with
 |zero=>intro i _ h;omega
 |succ n D=>
  intro i hi I x;rw[zIV,QG];refine Wp.lt (λl=>?_) λz=>Wb ⟨_,rfl,λh=>⟨λr hr=>?_,?_⟩⟩
  .have C:ixN (g.map Rc.av) (ofNat i)=some g[i].av:=by
    rw[zA2 (by rw[QG];exact l),List.getElem_map]
   have t0:=A _ (Qg l);have q:=λ{β} {P:β->Prop} {wk} {f}=>@zAd β wk P f _ _ _ _ _ _ _ _ _ _ _ _ _ _ _ _ _ _ _ _ _ _ _ _ _ _ _ _ _ _ _ _ C
   refine q (Wc (λ_=>no) λh1=>q (Wc (λ_=>no) λh2=>q (q (q (q (q ?_))))))
   have E:=t0.n;have J:=t0.m;have H:=t0.qC;have K:=t0.tj;have F:=t0.bj;rw[zYu (by omega),zYu (by omega),zYu (by omega),zYu (by omega)]
   refine Wc (λ_=>no) λh3=>?_
   rw[zm (by omega)]
   rw[qr]at h1 h3;refine D (i+1) l (by omega) λj s B=>?_
   rcases Nat.lt_or_ge j i with q|q
   .exact x j s q
   .obtain rfl:j=i:=by omega
    exact{ k:=t0.k,bd:=t0.bd,ti:=t0.ti,bi:=t0.bi,cd:=t0.cd,ic:=t0.ic,nu:=t0.nu,n:=by omega,m:=by omega,qC:=by omega,tj:=by omega,bj:=by omega,at_:=t0.at_,al:=by omega,sr:=t0.sr }
  .obtain⟨j,s,rfl⟩:=List.getElem_of_mem hr;exact x j s (by omega)
  .have h:=Qm h;rw[qr]at h;omega
theorem zdM(g:List Rc)(l:∀r∈g,Ty0 r)(s:g.length<=2000000):Wp (zDf (g.map Rc.av)) (isQ ((∀r∈g,Ty r)/\g.length<=600)):=by
 rw[zJI];exact zYh g l s FUEL 0 (QN _) (zD (by omega)) λj _ h=>absurd h (Nat.not_lt_zero _)
theorem zfw{r:Rc}(g:Ty r)(hc:chk r):RB r:=by
 refine⟨g.c,hc,λf z=>?_⟩
 have s:=(zLf r.k).1 f z;have j:=(hc.1.2 f s).1 z;rcases(by omega:f=0\/f=1\/f=2\/f=3\/f=4\/f=5\/f=6\/f=7\/f=8\/f=9\/f=10\/f=11\/f=12)with rfl|rfl|rfl|rfl|rfl|rfl|rfl|rfl|rfl|rfl|rfl|rfl|rfl
 .show r.n.length<=65536;have:=g.n;omega
 .exact j
 .exact j
 .exact j
 .obtain⟨x,h1,h2,h3,h4⟩:=back (strict g.sr j) j;have l:10 ∉ x:=λh=>by have:=(h3 10 h).1;omega
  refine⟨x,by unfold spT;rw[h1],h1,h2,?_⟩
  exact zZU h2 l h4
 .exact⟨by have:=g.tj;omega,j⟩
 .exact⟨by have:=g.bj;omega,j⟩
 .show r.m.length<=65536;have:=g.m;omega
 .show r.qC.length<=65536;have:=g.qC;omega
 .exact g.ic
 .exact g.nu
 .exact j
 .trivial
theorem rmA{n k:Nat}(h:n+k<=70000000000000):decide ((n+k)*1<=zc/\n+k<=zc)=true:=Qc (zbP h)
theorem zbn{l:JV}{i:Nat}(h:i<l.length):Cut (l.take i) l:=⟨l.drop i,λe=>by have:=List.drop_eq_nil_iff.1 e;omega,List.take_append_drop i l⟩
theorem fin(g:List Rc)(hl:∀r∈g,RB r)(h0:g≠[])(x:g.length<=512)(hb:(zAY g).length<=30000000000000)(m:Nat):(gd (decide ((List.length (chunks 1 0 [])+List.length (bys (zAY g)))*1<=zc/\List.length (chunks 1 0 [])+List.length (bys (zAY g))<=zc)) (gd (decide ((List.length (chunks 1 0 []++bys (zAY g))+List.length (chunks 1 1 [AV.int .u8 (ofNat m)]))*1<=zc/\List.length (chunks 1 0 []++bys (zAY g))+List.length (chunks 1 1 [AV.int .u8 (ofNat m)])<=zc)) (dK true y9 (zA6 (chunks 1 0 []++bys (zAY g)++chunks 1 1 (List.drop 0 (qm [AV.int .u8 0] 0 (AV.cells (AV.int .u8 (ofNat m))))))) λl z=>some (AV.bool (z==5)))))=some (.bool true):=by
 have e:chunks 1 0 []++bys (zAY g)++chunks 1 1 (List.drop 0 (qm [AV.int .u8 0] 0 (AV.cells (AV.int .u8 (ofNat m)))))=bys (zAY g++[m]):=by
  exact(zH7 (zAY g) [m]).symm
 have j:(bys (zAY g)).length=(zAY g).length:=QG _;have s:(chunks 1 0 []++bys (zAY g)).length=(zAY g).length:=j;rw[e,zUd g hl h0 x [m] (by rw[QE];show(zAY g).length+1<=_;omega),if_neg (List.cons_ne_nil _ _),s,j]
 show gd (decide ((0+(zAY g).length)*1<=zc/\0+(zAY g).length<=zc)) (gd (decide (((zAY g).length+1)*1<=zc/\(zAY g).length+1<=zc)) _)=_
 rw[rmA (by omega),zGo,rmA (by omega),zGo]
 rfl
theorem zbo(g:List Rc)(hl:∀r∈g,RB r)(h0:g≠[])(l:g.length<=512)(hb:(zAY g).length<=30000000000000)(m:Nat):∀(n i:Nat),i<=(zAY g).length->(zAY g).length-i<n->zX n (ofNat m) (bys (zAY g)) (ofNat i)=some (.bool true):=by
 intro n
 induction n with
 |zero=>intro i _ h;omega
 |succ n s=>
  intro i hi x;rw[zGd];have z:(bys (zAY g)).length=(zAY g).length:=QG _;by_cases j:i<(zAY g).length
  .rw[show decide (ofNat i<ofNat (bys (zAY g)).length)=true from Qc (Int.ofNat_lt.2 (by omega)),zAs]
   by_cases h4:i<400
   .rw[show decide (ofNat i<400)=true from Qc (by rw[qr];omega),zAs,zGD,zbB (Qe j),zGo]
    show dK true y9 (zA6 (List.take i (bys (zAY g)))) _=_
    rw[←List.map_take,zYg g hl h0 l _ (zbn j) (by rw[Qj];omega)]
    show zX n (ofNat m) (bys (zAY g)) (wrapx IntKind.i64 (ofNat i+1))=_
    rw[zm (by omega)]
    exact s (i+1) j (by omega)
   .rw[show decide (ofNat i<400)=false from Qd (by rw[qr];omega),zj]
    exact fin g hl h0 l hb m
  .rw[show decide (ofNat i<ofNat (bys (zAY g)).length)=false from Qd (λh=>j (by have:=Int.ofNat_lt.1 h;omega)),zj]
   exact fin g hl h0 l hb m
theorem law(l:List Rc)(hl:∀r∈l,Ty0 r)(z:l.length<=2000000)(m:Nat):zB1 (l.map Rc.av) (ofNat m)=some (.bool true):=by
 refine zD2 ?_
 rw[zHP,zZr,zgq];obtain⟨_,e1,B,rfl,h1⟩:=zdM l hl z;refine Wa (λh=>by cases h) λ_=>qk_b e1 (Wa (λ_=>Wb rfl) λs1=>?_)
 obtain⟨t1,j⟩:=h1 (by simpa using s1)
 obtain⟨v,f1,x⟩:=zbc l t1 j;rw[f1];rcases x with⟨e,A,rfl⟩|⟨rfl,g1,g,h0⟩
 .show Wp (br (e != 0) (some (AV.bool (ofNat (List.length ([]:JE))==0))) _) _
  exact Wa (λ_=>Wb rfl) λh=>absurd (neI h) A
 .have s:∀r∈l,RB r:=λr hr=>zfw (t1 r hr) (g1 r hr)
  have:=zbb l λr hr=>zW7 (t1 r hr) (g1 r hr).1
  have hu:(uv l.length).length<=10:=zMa (by omega)
  have hb:(zAY l).length<=30000000000000:=by rw[QE];omega
  have er:=zUd l s h0 g [] (by rw[Qk];omega)
  rw[Qk,if_pos rfl]at er;show Wp (dK true y9 (zA6 (bys (zAY l))) _) _
  rw[er];obtain⟨_,p2,rfl⟩:=zZ4 l t1 j;show Wp (dK true [K.b] (zBd (l.map Rc.av) (l.map Rc.av)) _) _
  refine qk_b p2 (Wa (λh=>by cases h) λ_=>?_)
  rw[zGE];exact⟨_,zbo l s h0 g hb m FUEL 0 (QN _) (zD (by omega)),rfl⟩
def zZ9:List CD:=[.int .i64,.str,.str,.int .i64,.int .i64,.int .i64]
def zaa:List CD:=[.str,.str]
def zUH:List CD:=[.int .i64,.str,.int .i64,.int .i64,.int .i64,.int .i64,.int .i64,.sl zaa false,.int .i64,.str,.str,.int .i64,.int .i64,.int .i64,.str,.int .i64,.int .i64,.int .i64,.int .i64,.sl zZ9 false,.int .i64,.str,.int .i64,.str,.int .i64,.str,.str,.int .u64,.int .u64,.int .i64,.bool]
section
variable{N:Nat}
theorem zE0{a:AV}(h:CD.Ok N .str a):∃s,a=.str s/\s.length<=N/\∀c∈s,c<256:=by cases h with|str l h hl g=>exact⟨l,rfl,g,h⟩
theorem zBf{a:AV}(h:CD.Ok N (.int .i64) a):∃n,a=.int .i64 n/\i64 n:=by cases h with|int k n h=>exact⟨n,rfl,h.1,h.2⟩
theorem zXi{a:AV}(h:CD.Ok N (.int .u64) a):∃n,a=.int .u64 n/\u64 n:=by cases h with|int k n h=>exact⟨n,rfl,h.1,Int.lt_of_le_of_lt h.2 (by decide)⟩
theorem zdN{a:AV}(h:CD.Ok N .bool a):∃b,a=.bool b:=by cases h with|bool b=>exact⟨b,rfl⟩
theorem zE{c:CD}{cs:List CD}{l:JE}(h:CD.wZ N (c::cs) l):∃a r,l=a::r/\CD.Ok N c a/\CD.wZ N cs r:=by cases h with|cons h g=>exact⟨_,_,rfl,h,g⟩
theorem zSP{l:JE}(h:CD.wZ N [] l):l=[]:=by cases h;rfl
theorem zYi{es:List CD}{a:AV}(h:CD.Ok N (.sl es false) a):∃xs:List JE,a=.qf es.length (xs.map .agg)/\(∀x∈xs,CD.wZ N es x)/\xs.length<=N:=by cases h with|agg es xs h g=>exact⟨xs,rfl,h,g⟩
theorem zeW{a:AV}(M:N<=2000000)(h:CD.Ok N (.sl zZ9 false) a):∃r,a=.qf 6 r/\NdB r:=by
 obtain⟨J,rfl,h1,h2⟩:=zYi h;refine⟨_,rfl,λe F=>?_,by rw[QG];omega⟩
 obtain⟨x,D,rfl⟩:=QR.1 F;have h:=h1 x D;obtain⟨_,_,rfl,j,h⟩:=zE h;obtain⟨_,_,rfl,E,h⟩:=zE h;obtain⟨_,_,rfl,A,h⟩:=zE h;obtain⟨_,_,rfl,H,h⟩:=zE h;obtain⟨_,_,rfl,B,h⟩:=zE h;obtain⟨_,_,rfl,C,h⟩:=zE h;obtain rfl:=zSP h;obtain⟨k,rfl,_⟩:=zBf j;obtain⟨s,rfl,K,z⟩:=zE0 E;obtain⟨t,rfl,I,t8⟩:=zE0 A;obtain⟨n,rfl,g⟩:=zBf H;obtain⟨l,rfl,_⟩:=zBf B;obtain⟨r,rfl,_⟩:=zBf C;exact⟨k,s,t,n,l,r,rfl,g.1,g.2,⟨by omega,z⟩,⟨by omega,t8⟩⟩
theorem zeX{a:AV}(C:N<=2000000)(h:CD.Ok N (.sl zaa false) a):∃l,a=.qf 2 l/\Ats l:=by
 obtain⟨B,rfl,h1,h2⟩:=zYi h;refine⟨_,rfl,λe z=>?_,by rw[QG];omega⟩
 obtain⟨x,A,rfl⟩:=QR.1 z;have h:=h1 x A;obtain⟨_,_,rfl,g,h⟩:=zE h;obtain⟨_,_,rfl,j,h⟩:=zE h;obtain rfl:=zSP h;obtain⟨s,rfl,_⟩:=zE0 g;obtain⟨t,rfl,_⟩:=zE0 j;exact⟨s,t,rfl⟩
theorem zXj{α:Type}{av:α->AV}{Q:α->Prop}{es:List CD}:∀{xs:List JE},(∀x∈xs,CD.wZ N es x)->(∀x,CD.wZ N es x->∃u,AV.agg x=av u/\Q u)->∃l:List α,xs.map AV.agg=l.map av/\l.length=xs.length/\∀u∈l,Q u
 |[],_,_=>⟨[],rfl,rfl,λv hv=>by cases hv⟩
 |x::xs,h,k=>by
  obtain⟨l,h1,h2,h3⟩:=zXj (λy g=>h y (.tail _ g)) k
  obtain⟨u,e,q⟩:=k x (h x (.head _));refine⟨u::l,by rw[QZ,QZ,h1,e],by rw[QL,QL,h2],λv hv=>?_⟩
  rcases QJ.1 hv with rfl|hv
  .exact q
  .exact h3 v hv
theorem zdO{a:AV}(g:N<=2000000)(h:CD.Ok N (.sl zUH false) a):∃l:List Rc,a=.qf 31 (l.map Rc.av)/\l.length<=2000000/\∀r∈l,Ty0 r:=by
 obtain⟨xs,rfl,h1,h2⟩:=zYi h;obtain⟨l,e,hl,hq⟩:=zXj (av:=Rc.av) (Q:=Ty0) h1 λx h=>by
  obtain⟨_,_,rfl,k1,h⟩:=zE h;obtain⟨_,_,rfl,k2,h⟩:=zE h;obtain⟨_,_,rfl,k3,h⟩:=zE h;obtain⟨_,_,rfl,k4,h⟩:=zE h;obtain⟨_,_,rfl,k5,h⟩:=zE h;obtain⟨_,_,rfl,k6,h⟩:=zE h;obtain⟨_,_,rfl,k7,h⟩:=zE h;obtain⟨_,_,rfl,k8,h⟩:=zE h;obtain⟨_,_,rfl,k9,h⟩:=zE h;obtain⟨_,_,rfl,S,h⟩:=zE h;obtain⟨_,_,rfl,V,h⟩:=zE h;obtain⟨_,_,rfl,af,h⟩:=zE h;obtain⟨_,_,rfl,Y,h⟩:=zE h;obtain⟨_,_,rfl,H,h⟩:=zE h;obtain⟨_,_,rfl,O,h⟩:=zE h;obtain⟨_,_,rfl,U,h⟩:=zE h;obtain⟨_,_,rfl,ae,h⟩:=zE h;obtain⟨_,_,rfl,aa,h⟩:=zE h;obtain⟨_,_,rfl,ad,h⟩:=zE h;obtain⟨_,_,rfl,B,h⟩:=zE h;obtain⟨_,_,rfl,ah,h⟩:=zE h;obtain⟨_,_,rfl,D,h⟩:=zE h;obtain⟨_,_,rfl,W,h⟩:=zE h;obtain⟨_,_,rfl,C,h⟩:=zE h;obtain⟨_,_,rfl,j,h⟩:=zE h;obtain⟨_,_,rfl,E,h⟩:=zE h;obtain⟨_,_,rfl,aj,h⟩:=zE h;obtain⟨_,_,rfl,M,h⟩:=zE h;obtain⟨_,_,rfl,s,h⟩:=zE h;obtain⟨_,_,rfl,ab,h⟩:=zE h;obtain⟨_,_,rfl,I,h⟩:=zE h;obtain rfl:=zSP h;obtain⟨x1,rfl,q1⟩:=zBf k1;obtain⟨x2,rfl,q2,_⟩:=zE0 k2;obtain⟨x3,rfl,q3⟩:=zBf k3;obtain⟨x4,rfl,q4⟩:=zBf k4;obtain⟨x5,rfl,q5⟩:=zBf k5;obtain⟨x6,rfl,q6⟩:=zBf k6;obtain⟨x7,rfl,q7⟩:=zBf k7;obtain⟨x8,rfl,q8⟩:=zeX g k8;obtain⟨x9,rfl,q9⟩:=zBf k9;obtain⟨x10,rfl,a7,_⟩:=zE0 S;obtain⟨x11,rfl,a6,_⟩:=zE0 V;obtain⟨x12,rfl,ao⟩:=zBf af;obtain⟨x13,rfl,az⟩:=zBf Y;obtain⟨x14,rfl,ak⟩:=zBf H;obtain⟨x15,rfl,ay,_⟩:=zE0 O;obtain⟨x16,rfl,au⟩:=zBf U;obtain⟨x17,rfl,ax⟩:=zBf ae;obtain⟨x18,rfl,aw⟩:=zBf aa;obtain⟨x19,rfl,aq⟩:=zBf ad;obtain⟨x20,rfl,z⟩:=zeW g B;obtain⟨x21,rfl,ar⟩:=zBf ah;obtain⟨x22,rfl,ac,_⟩:=zE0 D;obtain⟨x23,rfl,X⟩:=zBf W;obtain⟨x24,rfl,A,_⟩:=zE0 C;obtain⟨x25,rfl,ag⟩:=zBf j;obtain⟨x26,rfl,K,_⟩:=zE0 E;obtain⟨x27,rfl,ai,_⟩:=zE0 aj;obtain⟨x28,rfl,F⟩:=zXi M;obtain⟨x29,rfl,J⟩:=zXi s;obtain⟨x30,rfl,T⟩:=zBf ab;obtain⟨x31,rfl⟩:=zdN I;exact⟨⟨x1,x2,x3,x4,x5,x6,x7,x8,x9,x10,x11,x12,x13,x14,x15,x16,x17,x18,x19,x20,x21,x22,x23,x24,x25,x26,x27,x28,x29,x30,x31⟩,rfl,{ k:=q1,bd:=q3,ti:=X,bi:=ag,cd:=T,ic:=F,nu:=J,n:=Qh q2 g,m:=Qh K g,qC:=Qh ai g,tj:=Qh ac g,bj:=Qh A g,at_:=q8,sr:=z }⟩
 exact⟨l,by rw[e];rfl,by omega,hq⟩
end
theorem zeY{N:Nat}{x:AV}{m:Int}(A:N<=2000000)(hx:CD.Ok N (.sl zUH false) x)(hm:has .u8 m):FnT Tryz.prog G0 3 [x,.int .u8 m] [] 0 (.bool true) [] 0:=by
 have s:=hx.pp;obtain⟨l,rfl,e2,e3⟩:=zdO A hx;obtain⟨m,rfl⟩:=Int.eq_ofNat_of_zero_le (show(0:Int)<=m from hm.1)
 have e:=law l e3 e2 m;have j:zB4 Tryz.prog G0 3 (gV t146 1 3):=(t146.ok FUEL).at;refine(j _ _ (λz g=>?_) (by unfold zB1 at e;exact e)).2.2 [] 0
 rcases QJ.1 g with rfl|g
 .exact s
 .rw[QU.1 g];exact .int _ _
theorem zab{v:Value}(h:v.oneCell'=true):v.cells.toList=[v]:=by cases v<;>first|rfl|cases h
def zac(H:Type):BK H:=⟨Rows.uptoBulk,Rows.uptoBulkAll,λ_=>rfl,λd=>by
 cases d with
 |lit l=>cases l<;>exact Qz _
 |_=>exact Qz _,λ_ _=>rfl,λ_=>rfl,rfl,λ_ _=>rfl⟩
omit [MX] in
theorem zdP:zRV Tryz.prog 10 22=some [.sl zUH false]:=by kernel_rfl
end Go.Proofs.YtjfcepbllmdfcaaGreatDoor.record
