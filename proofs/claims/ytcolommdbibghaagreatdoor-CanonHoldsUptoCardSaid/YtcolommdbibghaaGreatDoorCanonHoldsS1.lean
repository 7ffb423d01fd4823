/- THE FUNCTIONS THAT THE LAW REACHES, AS LEAN FUNCTIONS: part 1. No condition. -/
import Derived.Test.YtcolommdbibghaaGreatDoorCanonHoldsBase
set_option linter.unusedVariables false
set_option linter.unusedSimpArgs false
namespace Go.Proofs.YtcolommdbibghaaGreatDoor.canon
open Go Go.Sy
noncomputable section
abbrev Ya:JF:=some (.bool false)
abbrev Yb:JF:=some (.bool true)
abbrev Yc:JF:=some (.int .i64 (Int.ofNat 2))
abbrev ya(a:JV)(b c d e f:Int):JE:=[.str a,.int .i64 b,.int .i64 c,.int .i64 d,.sym 0,.int .i64 e,.int .i64 f]
abbrev yb(a:Int)(b c:JV)(d e f:Int)(g:JE):JE:=[.int .i64 a,.str b,.str c,.int .i64 d,.int .i64 e,.int .i64 f,.qo 1 g]
abbrev yc(a:Int)(b c:JV)(d e f:Int):JE:=[.int .i64 a,.str b,.str c,.int .i64 d,.int .i64 e,.int .i64 f]
abbrev yd(a:Int)(b:Nat)(c:Int):JE:=[.ptr 0 0,.int .i64 a,.func (.func b) [] [],.int .i64 c]
abbrev ye(a:Int)(b c:JV)(d e f:Int):JE:=[.int .i64 a,.str b,.str c,.int .i64 d,.int .i64 e,.int .i64 f,.qa]
abbrev yf(a:Int)(b:Nat):JE:=[.ptr 0 0,.int .i64 a,.func (.func b) [] []]
abbrev yg:List D:=[.v (.qg 0),.hc 0 false 7,.v .s,.v (.i .i64),.v (.i .i64),.v (.i .i64),.v (.c (.sym 0)),.v (.i .i64),.v (.i .i64),.vec 0 6]
abbrev yh:List D:=[.v (.i .i64),.hc 0 false 7,.v .s,.v (.i .i64),.v (.i .i64),.v (.i .i64),.v (.c (.sym 0)),.v (.i .i64),.v (.i .i64),.vec 0 6]
abbrev yi:List K:=[.ep 0,.agg 7,.i .i64,.s,.s,.i .i64,.i .i64,.i .i64,.l 1]
abbrev yj:List D:=[.v .b,.hc 0 false 7,.v .s,.v (.i .i64),.v (.i .i64),.v (.i .i64),.v (.c (.sym 0)),.v (.i .i64),.v (.i .i64),.vec 0 6]
abbrev yk:List K:=[.agg 6,.i .i64,.s,.s,.i .i64,.i .i64,.i .i64]
abbrev yl:List D:=[.v .s,.hc 0 false 7,.v .s,.v (.i .i64),.v (.i .i64),.v (.i .i64),.v (.c (.sym 0)),.v (.i .i64),.v (.i .i64),.vec 0 6]
abbrev ym:List D:=[.v (.c (.sym 0)),.vec 0 1]
abbrev yn:List K:=[.qg 2,.agg 1,.l 6,.agg 2,.i .i64,.i .i64]
abbrev yo:List D:=[.v (.qg 2),.v (.c (.sym 0)),.v (.i .i64),.vec 0 6]
abbrev yp:List K:=[.qg 2,.agg 1,.l 6,.i .i64]
abbrev yq:List K:=[.agg 2,.s,.s]
abbrev yr:List K:=[.agg 2,.i .i64,.i .i64]
abbrev ys:List K:=[.agg 1,.l 6]
abbrev yt:List D:=[.v (.ep 0),.v (.agg 7),.v (.i .i64),.v .s,.v .s,.v (.i .i64),.v (.i .i64),.v (.i .i64),.v (.l 1)]
abbrev yu:List K:=[.qg 2,.b,.i .i64]
abbrev yv:List D:=[.v (.qg 0),.vec 0 1]
abbrev yw:List K:=[.qg 2,.s,.i .i64]
abbrev yx(a:JV)(b c d e f:Int):Heap:=[(0,.cells false (ya a b c d e f))]
abbrev yy a b c d e f g h:=([(0,.cells false (ya a b c d e f)),(1,.cells false [.qa]),(2,.cells false [.int .i64 g,.int .i64 h])]:Heap)
noncomputable def ad(t:Tb Tryz.prog G0)(r:Bool)(g:Grp)(h:GrpOK Tryz.prog g):Tb Tryz.prog G0:=t.add r g h zMN zWJ mix
noncomputable def mk(f:Func)(A:An):FFn:=mkX Tryz.prog f A
def zzk:List (List K×JV)->List (Nat×List K)
 |[]=>[]
 |(k,l)::r=>l.map (λn=>(n,k))++zzk r
def zzj(n:Nat):List (Nat×JV)->List (Nat×Nat×Cut)
 |[]=>[]
 |(a,v)::r=>(a,n,⟨v,[],0⟩)::zzj (n+1) r
def zzc(n:Nat)(v:JV):LA:=.c n ⟨v,[],0⟩
def zzm(f:Func)(g:List (List K×JV))(s:List (Nat×JV))(l:List LA):FFn:=mk f ⟨zzk g,[],none,zzj 1000 s,l⟩
def zza {n:Nat} {f:Func} (t:Tb Tryz.prog G0) (x:FFn) (h:Tryz.prog.funcs[n]?=some f) (k:(compF Tryz.prog f,f.name=="runtime.NumGoroutine",fcOK x.fc)=(some x.xf,false,true)):Tb Tryz.prog G0:=ad t false ⟨[(n,x)],[]⟩ (.wR ⟨⟨f,h,congrArg (·.1) k,congrArg (·.2.1) k⟩⟩ (congrArg (·.2.2) k) .nil)
def zzo {n:Nat} {f:Func} (t:Tb Tryz.prog G0) (g:JN) (p:JV) (x:FFn) (d:List D) (h:Tryz.prog.funcs[n]?=some f) (k:(compF Tryz.prog f,f.name=="runtime.NumGoroutine",fcOK x.fc,(fcN p x.fc&&!inpl g))=(some x.xf,false,true,true)):Tb Tryz.prog G0:=ad t false ⟨[],[⟨n,g,p,x,d⟩]⟩ (.wY ⟨⟨f,h,congrArg (·.1) k,congrArg (·.2.1) k⟩⟩ (congrArg (·.2.2.1) k) (congrArg (·.2.2.2) k) .nil)
def x62:FFn:=mk Tryz.f62 ⟨zzk [(yk,[13,40]),([.l 1],[19]),(yi,[24]),([.av],[25,41]),([.b],[42])],[(62,yo)],none,[],[.c 12 ⟨[1,6,19,20,21],[(1,6)],0⟩]⟩
theorem fx62:FnX Tryz.prog 62 x62.xf:=⟨_,Tryz.func62,by kernel_rfl,by kernel_rfl⟩
def t1:=ad t0 true ⟨[(62,x62)],[⟨62,[],[],x62,yo⟩]⟩ (.wR fx62 (by kernel_rfl) (.wY fx62 (by kernel_rfl) (by kernel_rfl) (.nil)))
def zEl a b c d e f g h:=gO t1 a 62 [.qc (.agg (yb b c d e f g h)) 0,.qa] [] []
def zBy a b c d e f g h i j k l:=fO t1 a 12 x62 [] [b] [.sym 0,.ptr 0 0,.qo 1 c,.int .i64 d,.int .i64 e] [(0,.cells false (yc f g h i j k))] [(0,.vec 6 l)]
def zBR a b c d e f g h i:=gO t1 a 62 [.qc (.agg (yb b c d e f g h)) 0,.sym 0] [] [(0,.vec 6 i)]
def zA2 a b c d e f g h i j k l:=fO t1 a 12 x62 [] [b] [.sym 0,.ptr 0 0,.qo 1 c,.int .i64 d,.int .i64 e] [(0,.cells false (yc f g h i j k))] [(0,.vec 6 l)]
def x36:FFn:=zzm Tryz.f36 [(yk,[27,28]),([.i .i64],[31,43,46,52,54,33,37,60,61,71,72,74,82,83,98,99])] [(1,[0]),(12,[0,3,4,6,22,23,24]),(18,[0,3,4,5,6,22,23,24,48])] [zzc 27 [0,3,22,23,24],zzc 25 [0,3,4,22,23,24,56,57,58],zzc 34 [0,3,77,78,79]]
def t2:=zza t1 x36 Tryz.func36 (by kernel_rfl)
def zGO a:=gV t2 1 36 [.qo 6 a]
def zBb a b c d e f g h i j k:=fV t2 0 25 x36 [a,b] [.qo 6 c,.sym 0,.int .i64 d,.qo 6 e,.int .i64 f,.int .i64 g,.sym 1,.int .i64 h,.int .i64 i] [] [(0,.vec 1 j),(1,.vec 1 k)]
def zCi a b c d e f g h:=fV t2 0 1001 x36 [a] [.qo 6 b,.sym 0,.int .i64 c,.sym 1,.qo 6 d,.int .i64 e,.int .i64 f] [] [(0,.vec 1 g),(1,.vec 1 h)]
def zDz a b c d e f g h i j k l m n o:=fV t2 0 1002 x36 [a] [.qo 6 b,.sym 0,.int .i64 c,.ptr 0 0,.sym 1,.qo 6 d,.int .i64 e,.int .i64 f,.bool g] [(0,.cells false (yc h i j k l m))] [(0,.vec 1 n),(1,.vec 1 o)]
def zB3 a b c d e:=fV t2 0 34 x36 [a] [.qo 6 b,.sym 0,.sym 0,.int .i64 c,.int .i64 d] [] [(0,.vec 1 e)]
def zBc a b c d e f:=fV t2 0 27 x36 [a] [.qo 6 b,.sym 0,.qo 6 c,.int .i64 d,.int .i64 e] [] [(0,.vec 1 f)]
def zHu a:=fV t2 0 1000 x36 [] [.qo 6 a] [] []
def x57:FFn:=zzm Tryz.f57 [] [] []
def t3:=zza t2 x57 Tryz.func57 (by kernel_rfl)
def zHv a:=gV t3 1 57 [.int .i64 a]
def t4:Tb Tryz.prog G0:=t3.ext zHq
def zD3(a b:Int):JF:=zFg ([.int .i64 a,.int .i64 b])
def x56:FFn:=zzm Tryz.f56 [([.l 6],[7,10]),([.s],[9]),(yk,[12]),([.i .i64],[14,15])] [] []
theorem fx56:FnX Tryz.prog 56 x56.xf:=⟨_,Tryz.func56,by kernel_rfl,by kernel_rfl⟩
def x27:FFn:=zzm Tryz.f27 [([.l 6],[7]),(yk,[9,10]),([.i .i64],[13,38,47,54,61,66,73,78]),([.s],[19,22,27,30,35,39,44,48,55,62,67,74,79,82])] [] [.d [],.d [],.d [],.d []]
theorem fx27:FnX Tryz.prog 27 x27.xf:=⟨_,Tryz.func27,by kernel_rfl,by kernel_rfl⟩
def t5:=ad t4 true ⟨[(56,x56),(27,x27)],[]⟩ (.wR fx56 (by kernel_rfl) (.wR fx27 (by kernel_rfl) (.nil)))
def zCZ a b c:=gV t5 a 27 [.qo 6 b,.int .i64 c]
def zBX a b c d:=gV t5 a 56 [.int .i64 b,.int .i64 c,.qc (.agg [.qo 6 d]) 0]
def x25:FFn:=mk Tryz.f25 ⟨zzk [([.i .i64],[5,20,27]),([.s],[9,16])],[],none,[(0,1000,⟨[0],[],1⟩)],[.c 2 ⟨[0],[],1⟩,.d [0]]⟩
def t6:=zzo t5 [(4,6)] [0] x25 yg Tryz.func25 (by kernel_rfl)
def zR a b c d e f g:=gO t6 1 25 [.ptr 0 0] ((yx a b c d e f)) [(0,.vec 6 g)]
def zEM a b c d e f g h:=fO t6 0 1000 x25 [0] [a] [.ptr 0 0] ((yx b c d e f g)) [(0,.vec 6 h)]
def zBl a b c d e f g h:=fO t6 0 2 x25 [0] [a] [.ptr 0 0] ((yx b c d e f g)) [(0,.vec 6 h)]
def x158:FFn:=zzm Tryz.f158 [] [] []
def t7:=zza t6 x158 Tryz.func158 (by kernel_rfl)
def zAS a b:=gV t7 1 158 [.str a,.str b]
def x135:FFn:=zzm Tryz.f135 [([.b],[7])] [] []
def t8:=zza t7 x135 Tryz.func135 (by kernel_rfl)
def zD4 a b:=gV t8 1 135 [.str a,.str b]
def x98:FFn:=mk Tryz.f98 ⟨zzk [([.s],[10]),([.i .i64],[14,22]),([.b],[17])],[(25,yg)],none,[],[.d [0]]⟩
def t9:=zzo t8 [(4,6)] [0] x98 yj Tryz.func98 (by kernel_rfl)
def zh a b c d e f g h:=gO t9 1 98 [.ptr 0 0,.str a] ((yx b c d e f g)) [(0,.vec 6 h)]
def x26:FFn:=zzm Tryz.f26 [(yr,[9])] [] []
def t10:=zzo t9 [(4,6)] [0] x26 yg Tryz.func26 (by kernel_rfl)
def zx a b c d e f g h i:=gO t10 1 26 [.ptr 0 0,.int .i64 a,.int .i64 b] ((yx c d e f g h)) [(0,.vec 6 i)]
def x136:FFn:=mk Tryz.f136 ⟨zzk [([.i .i64],[8,15])],[(26,yg)],none,[],[]⟩
def t11:=zzo t10 [(4,6)] [0] x136 yj Tryz.func136 (by kernel_rfl)
def zCj a b c d e f g h:=gO t11 1 136 [.ptr 0 0,.int .i64 a] ((yx b c d e f g)) [(0,.vec 6 h)]
def x99:FFn:=mk Tryz.f99 ⟨zzk [([.i .i64],[7,14])],[(26,yg)],none,[],[]⟩
def t12:=zzo t11 [(4,6)] [0] x99 yg Tryz.func99 (by kernel_rfl)
def zAj a b c d e f g h:=gO t12 1 99 [.ptr 0 0,.int .i64 a] ((yx b c d e f g)) [(0,.vec 6 h)]
def x100:FFn:=zzm Tryz.f100 [(yr,[8]),([.l 6],[15,24]),(yk,[16]),([.av],[17])] [] [.q]
def t13:=zzo t12 [(4,6)] [0] x100 yh Tryz.func100 (by kernel_rfl)
def zAd a b c d e f g h i j k l m:=gO t13 1 100 [.ptr 0 0,.agg (yc a b c d e f)] ((yx g h i j k l)) [(0,.vec 6 m)]
def x121:FFn:=zzm Tryz.f121 [] [] []
def t14:=zza t13 x121 Tryz.func121 (by kernel_rfl)
def zAL a:=gV t14 1 121 [.int .u8 a]
def x160:FFn:=zzm Tryz.f160 [([.b],[11])] [] []
def t15:=zza t14 x160 Tryz.func160 (by kernel_rfl)
def zDA a:=gV t15 1 160 [.int .u8 a]
def x147:FFn:=zzm Tryz.f147 [] [] []
def t16:=zza t15 x147 Tryz.func147 (by kernel_rfl)
def zGP a:=gV t16 1 147 [.int .u8 a]
def t17:Tb Tryz.prog G0:=t16.ext zHr
def zFX(a:JV)(b:Int):JF:=zFh ([.str a,.int .u8 b])
def x122:FFn:=zzm Tryz.f122 [([.b],[4,7]),([.i .i64],[11])] [] []
def t18:=zza t17 x122 Tryz.func122 (by kernel_rfl)
def zBY a:=gV t18 1 122 [.int .u8 a]
def x159:FFn:=mk Tryz.f159 ⟨zzk [([.i .i64],[11,15,26,41,48,60]),([.s],[19,37,55]),([.b],[43])],[],none,[(3,1000,⟨[0,1,2,7],[],1⟩)],[.c 4 ⟨[0,1,2,7],[],1⟩,.d [0],.d [0]]⟩
def t19:=zzo t18 [(4,6)] [0] x159 yl Tryz.func159 (by kernel_rfl)
def zAv a b c d e f g h:=gO t19 1 159 ((yf a 160)) ((yx b c d e f g)) [(0,.vec 6 h)]
def zBf a b c d e f g h i j:=fO t19 0 1000 x159 [0] [a] ((yd b 160 c)) ((yx d e f g h i)) [(0,.vec 6 j)]
def zU a b c d e f g h i j:=fO t19 0 4 x159 [0] [a] ((yd b 160 c)) ((yx d e f g h i)) [(0,.vec 6 j)]
def zBi a b c d e f g h:=gO t19 1 159 ((yf a 122)) ((yx b c d e f g)) [(0,.vec 6 h)]
def zCk a b c d e f g h i j:=fO t19 0 1000 x159 [0] [a] ((yd b 122 c)) ((yx d e f g h i)) [(0,.vec 6 j)]
def zAf a b c d e f g h i j:=fO t19 0 4 x159 [0] [a] ((yd b 122 c)) ((yx d e f g h i)) [(0,.vec 6 j)]
def zBr a b c d e f g h:=gO t19 1 159 ((yf a 121)) ((yx b c d e f g)) [(0,.vec 6 h)]
def zCz a b c d e f g h i j:=fO t19 0 1000 x159 [0] [a] ((yd b 121 c)) ((yx d e f g h i)) [(0,.vec 6 j)]
def zAh a b c d e f g h i j:=fO t19 0 4 x159 [0] [a] ((yd b 121 c)) ((yx d e f g h i)) [(0,.vec 6 j)]
def x161:FFn:=mk Tryz.f161 ⟨zzk [([.i .i64],[14])],[(25,yg),(159,yl),(26,yg)],none,[],[]⟩
def t20:=zzo t19 [(4,6)] [0] x161 yl Tryz.func161 (by kernel_rfl)
def zAw a b c d e f g:=gO t20 1 161 [.ptr 0 0] ((yx a b c d e f)) [(0,.vec 6 g)]
def t21:Tb Tryz.prog G0:=t20.ext zH7
def zBG(a:JV)(b c:Int):JF:=zB4 ([.str a,.int .i64 b,.int .i64 c])
def x78:FFn:=zzm Tryz.f78 [([.qg 2,.i .i64,.av],[7])] [] []
def t22:=zza t21 x78 Tryz.func78 (by kernel_rfl)
def zBZ a:=gV t22 1 78 [.str a]
def x162:FFn:=mk Tryz.f162 ⟨zzk [([.i .i64],[14,17])],[(25,yg),(159,yl),(26,yg)],none,[],[]⟩
def t23:=zzo t22 [(4,6)] [0] x162 yh Tryz.func162 (by kernel_rfl)
def zAg a b c d e f g:=gO t23 1 162 [.ptr 0 0] ((yx a b c d e f)) [(0,.vec 6 g)]
def x137:FFn:=mk Tryz.f137 ⟨zzk [([.i .i64],[9,13,28,40,48,58,73,88,103,111,161]),([.s],[17,24,36,62,69,92,99]),([.b],[75,105]),(yk,[164])],[(26,yg),(159,yl),(99,yg),(100,yh),(98,yj),(161,yl),(162,yh)],none,[(2,1000,⟨[0,3],[],1⟩),(3,1001,⟨[0,3,43],[],1⟩),(7,1002,⟨[0,3,4],[],1⟩),(8,1003,⟨[0,3,4,78],[],1⟩),(11,1004,⟨[0,3,4],[],1⟩),(12,1005,⟨[0,3,4,106],[],1⟩),(17,1006,⟨[0,5],[],1⟩),(22,1007,⟨[0,5,146],[],1⟩)],[.d [0],.d [0],.d [0]]⟩
def t24:=zzo t23 [(4,6)] [0] x137 yh Tryz.func137 (by kernel_rfl)
def zCL a b c d e f g:=gO t24 1 137 [.ptr 0 0] ((yx a b c d e f)) [(0,.vec 6 g)]
def zl a b c d e f g h i j k l m:=fO t24 0 1006 x137 [0] [] [.ptr 0 0,.ptr 1 0] [(0,.cells false (ya a b c d e f)),(1,.cells false (yc g h i j k l))] [(0,.vec 6 m)]
def zY a b c d e f g h i j k l m n:=fO t24 0 1007 x137 [0] [] [.ptr 0 0,.ptr 1 0,.bool a] [(0,.cells false (ya b c d e f g)),(1,.cells false (yc h i j k l m))] [(0,.vec 6 n)]
def zDe a b c d e f g h i:=fO t24 0 1004 x137 [0] [] [.ptr 0 0,.int .i64 a,.str b] ((yx c d e f g h)) [(0,.vec 6 i)]
def zBS a b c d e f g h i j:=fO t24 0 1005 x137 [0] [] [.ptr 0 0,.int .i64 a,.str b,.bool c] ((yx d e f g h i)) [(0,.vec 6 j)]
def zDf a b c d e f g h i:=fO t24 0 1002 x137 [0] [] [.ptr 0 0,.int .i64 a,.str b] ((yx c d e f g h)) [(0,.vec 6 i)]
def zAW a b c d e f g h i j:=fO t24 0 1003 x137 [0] [] [.ptr 0 0,.int .i64 a,.str b,.bool c] ((yx d e f g h i)) [(0,.vec 6 j)]
def zFi a b c d e f g h:=fO t24 0 1000 x137 [0] [] [.ptr 0 0,.int .i64 a] ((yx b c d e f g)) [(0,.vec 6 h)]
def zAX a b c d e f g h i:=fO t24 0 1001 x137 [0] [] [.ptr 0 0,.int .i64 a,.bool b] ((yx c d e f g h)) [(0,.vec 6 i)]
def x54:FFn:=mk Tryz.f54 ⟨zzk [(yr,[17]),([.i .i64],[25])],[(25,yg),(98,yj),(99,yg),(100,yh)],(some yh),[],[.c 9 ⟨[0,1,2,3,9],[],1⟩]⟩
theorem fx54:FnX Tryz.prog 54 x54.xf:=⟨_,Tryz.func54,by kernel_rfl,by kernel_rfl⟩
def x101:FFn:=mk Tryz.f101 ⟨zzk [([.i .i64],[11,34,54,73]),(yr,[16,61])],[(25,yg),(98,yj),(136,yj),(99,yg),(101,yh),(100,yh),(24,yh),(26,yg),(137,yh)],none,[(20,1000,⟨[0,5],[],1⟩),(21,1001,⟨[0,5,68],[],1⟩)],[]⟩
theorem zZX:FnX Tryz.prog 101 x101.xf:=⟨_,Tryz.func101,by kernel_rfl,by kernel_rfl⟩
def x55:FFn:=mk Tryz.f55 ⟨[],[(54,yh)],none,[],[]⟩
theorem fx55:FnX Tryz.prog 55 x55.xf:=⟨_,Tryz.func55,by kernel_rfl,by kernel_rfl⟩
def x24:FFn:=mk Tryz.f24 ⟨[],[(54,yh)],none,[],[]⟩
theorem fx24:FnX Tryz.prog 24 x24.xf:=⟨_,Tryz.func24,by kernel_rfl,by kernel_rfl⟩
def t25:=ad t24 true ⟨[],[⟨54,[(4,6)],[0],x54,yh⟩,⟨101,[(4,6)],[0],x101,yh⟩,⟨55,[(4,6)],[0],x55,yh⟩,⟨24,[(4,6)],[0],x24,yh⟩]⟩ (.wY fx54 (by kernel_rfl) (by kernel_rfl) (.wY zZX (by kernel_rfl) (by kernel_rfl) (.wY fx55 (by kernel_rfl) (by kernel_rfl) (.wY fx24 (by kernel_rfl) (by kernel_rfl) (.nil)))))
def zDB a b c d e f g h:=gO t25 a 24 [.ptr 0 0] ((yx b c d e f g)) [(0,.vec 6 h)]
def zAA a b c d e f g h i j:=gO t25 a 54 [.ptr 0 0,.str b,.int .i64 c,.func (.func 55) [.ptr 0 0] []] ((yx d e f g h i)) [(0,.vec 6 j)]
def zy a b c d e f g h i j k l:=fO t25 a 9 x54 [0] [b] [.ptr 0 0,.str c,.int .i64 d,.func (.func 55) [.ptr 0 0] [],.int .i64 e] ((yx f g h i j k)) [(0,.vec 6 l)]
def zAD a b c d e f g h:=gO t25 a 55 [.ptr 0 0] ((yx b c d e f g)) [(0,.vec 6 h)]
def z5 a b c d e f g h i j:=gO t25 a 54 [.ptr 0 0,.str b,.int .i64 c,.func (.func 101) [.ptr 0 0] []] ((yx d e f g h i)) [(0,.vec 6 j)]
def zA a b c d e f g h i j k l:=fO t25 a 9 x54 [0] [b] [.ptr 0 0,.str c,.int .i64 d,.func (.func 101) [.ptr 0 0] [],.int .i64 e] ((yx f g h i j k)) [(0,.vec 6 l)]
def zZ a b c d e f g h:=gO t25 a 101 [.ptr 0 0] ((yx b c d e f g)) [(0,.vec 6 h)]
def zDC a b c d e f g h i:=fO t25 a 1000 x101 [0] [] [.ptr 0 0,.int .i64 b] ((yx c d e f g h)) [(0,.vec 6 i)]
def zB6 a b c d e f g h i j:=fO t25 a 1001 x101 [0] [] [.ptr 0 0,.int .i64 b,.bool c] ((yx d e f g h i)) [(0,.vec 6 j)]
def x7:FFn:=⟨1,70,.seq (.wA [q1 2 (.alloc [.qa]),q1 3 (.alloc [.int .i64 0,.int .i64 0])]) (.seq (.seq (.wA [q1 5 (.wH (.t 0)),q1 6 (.wU (.t 5)),q1 7 (.bin .gtr (.t 6) (.c (.int .i64 1024)))]) (.cond (.t 7) (.seq (.wA [q1 8 (.build [.qa] []),q1 9 (.build [.int .i64 0,.int .i64 0] [(0,1,.c (.int .i64 3)),(1,1,.c (.int .i64 (-1)))]),q0 (.store (.t 2) (.t 8) 1),q0 (.store (.t 3) (.t 9) 2)]) (.ret)) (.skip))) (.seq (.wA [q1 10 (.wH (.t 0)),q1 11 (.build [.str [],.int .i64 0,.int .i64 0,.int .i64 0,.qa,.int .i64 0,.int .i64 0] [(0,1,.t 10)]),q1 12 (.box (.t 11) 7),q1 4 (.wH (.t 12))]) (.seq (.wA [q1 13 (.wH (.t 4)),qh 14 yh (.call 24 [.t 13])]) (.seq (.wA [q1 15 (.wH (.t 4)),qh 16 yg (.call 25 [.t 15])]) (.wi 1000 ⟨[4,2,3],[],0⟩ (.seq (.wA [q1 17 (.wH (.t 4)),q1 18 (.qO (.t 17)),q1 19 (.qC (.t 18) 1),qk 20 [.i .i64] (.load (.t 19) 1 false),q1 21 (.wH (.t 0)),q1 22 (.wU (.t 21)),q1 23 (.bin .lss (.t 20) (.t 22))]) (.cond (.t 23) (.wA [q1 24 (.wH (.t 4)),q1 25 (.wH (.t 4)),q1 26 (.qO (.t 25)),q1 27 (.qC (.t 26) 1),qk 28 [.i .i64] (.load (.t 27) 1 false),qh 29 yg (.call 26 [.t 24,.c (.int .i64 5),.t 28])]) (.skip))) (.wi 1001 ⟨[4,2,3],[],0⟩ (.seq (.qS [q1 30 (.wH (.t 4)),q1 31 (.qO (.t 30)),q1 32 (.qC (.t 31) 5),qk 33 yr (.load (.t 32) 2 true),q1 34 (.build [.int .i64 0,.int .i64 0] []),q1 35 (.qW false [.i,.i] (.t 33) (.t 34)),q1 36 (.wH (.t 35)),⟨⟨(some 37),.wH (.t 4),(some (36,true))⟩,[],none⟩,⟨⟨(some 38),.qO (.t 37),(some (36,true))⟩,[],none⟩,⟨⟨(some 39),.qC (.t 38) 4,(some (36,true))⟩,[],none⟩,⟨⟨(some 40),.load (.t 39) 1 false,(some (36,true))⟩,[.l 6],none⟩,⟨⟨(some 41),.wH (.t 4),(some (36,true))⟩,[],none⟩,⟨⟨(some 42),.qO (.t 41),(some (36,true))⟩,[],none⟩,⟨⟨(some 43),.qC (.t 42) 4,(some (36,true))⟩,[],none⟩,⟨⟨(some 44),.load (.t 43) 1 false,(some (36,true))⟩,[.l 6],none⟩,⟨⟨(some 45),.wb (.t 44),(some (36,true))⟩,[],none⟩,⟨⟨(some 46),.bin .sub (.t 45) (.c (.int .i64 1)),(some (36,true))⟩,[],none⟩,⟨⟨(some 47),.call 27 [.t 40,.t 46],(some (36,true))⟩,[.s],none⟩,⟨⟨(some 48),.wU (.t 47),(some (36,true))⟩,[],none⟩,⟨⟨(some 49),.bin .gtr (.t 48) (.c (.int .i64 1024)),(some (36,true))⟩,[],none⟩,q1 50 (.pick (.t 36) (.t 49) (.c (.bool false)))] [⟨0,[4]⟩,⟨1,[30]⟩,⟨3,[31]⟩,⟨7,[32]⟩,⟨0,[]⟩,⟨31,[33,34]⟩,⟨63,[35]⟩,⟨127,[36,4]⟩,⟨255,[36,37]⟩,⟨511,[36,38]⟩,⟨1023,[36,39]⟩,⟨127,[36,4]⟩,⟨2175,[36,41]⟩,⟨6271,[36,42]⟩,⟨14463,[36,43]⟩,⟨30847,[36,44]⟩,⟨63615,[36,45]⟩,⟨131071,[36,40,46]⟩,⟨262143,[36,47]⟩,⟨524287,[36,48]⟩,⟨1048575,[36,49]⟩]) (.cond (.t 50) (.wA [q1 51 (.wH (.t 4)),qh 52 yg (.call 26 [.t 51,.c (.int .i64 3),.c (.int .i64 (-1))])]) (.skip))) (.seq (.seq (.wA [q1 53 (.wH (.t 4)),q1 54 (.qO (.t 53)),q1 55 (.qC (.t 54) 5),qk 56 yr (.load (.t 55) 2 true),q1 57 (.build [.int .i64 0,.int .i64 0] []),q1 58 (.qW true [.i,.i] (.t 56) (.t 57))]) (.cond (.t 58) (.seq (.qS [q1 59 (.build [.qa] []),q1 60 (.wH (.t 4)),q1 61 (.qO (.t 60)),q1 62 (.qC (.t 61) 5),qk 63 yr (.load (.t 62) 2 true),⟨⟨none,.store (.t 2) (.t 59) 1,none⟩,[.b],none⟩,⟨⟨none,.store (.t 3) (.t 63) 2,none⟩,[.b],none⟩] [⟨0,[]⟩,⟨0,[4]⟩,⟨2,[60]⟩,⟨6,[61]⟩,⟨14,[62]⟩,⟨1,[2,59]⟩,⟨63,[3,63]⟩]) (.ret)) (.skip))) (.seq (.wA [q1 64 (.wH (.t 4)),q1 65 (.qO (.t 64)),q1 66 (.qC (.t 65) 4),qk 67 [.l 6] (.load (.t 66) 1 false),q1 68 (.build [.qa] [(0,1,.t 67)]),q1 69 (.build [.int .i64 0,.int .i64 0] []),q0 (.store (.t 2) (.t 68) 1),q0 (.store (.t 3) (.t 69) 2)]) (.ret))))))))),[.cell 2 1 true,.cell 3 2 true],[]⟩
def t26:=zza t25 x7 Tryz.func7 (by kernel_rfl)
def zDg a:=gV t26 1 7 [.str a]
def zCM a b c d e f g h i:=fV t26 0 1001 x7 [] [.ptr 0 0,.ptr 1 0,.ptr 2 0] ((yy a b c d e f g h)) [(0,.vec 6 i)]
def zEb a b c d e f g h i:=fV t26 0 1000 x7 [] [.ptr 0 0,.ptr 1 0,.ptr 2 0] ((yy a b c d e f g h)) [(0,.vec 6 i)]
def x34:FFn:=zzm Tryz.f34 [(yk,[18,19,22,23])] [] [zzc 9 [0,1,12,13],.q]
def t27:=zza t26 x34 Tryz.func34 (by kernel_rfl)
def zW a b:=gV t27 1 34 [.qo 6 a,.qo 6 b]
def z6 a b c d e:=fV t27 0 9 x34 [a] [.qo 6 b,.qo 6 c,.int .i64 d,.int .i64 e] [] []
def x13:FFn:=zzm Tryz.f13 [([.l 6],[6,11,13,25,27]),([.b],[7,28]),([.s],[16]),(yn,[17]),(yr,[20])] [] []
def t28:=zza t27 x13 Tryz.func13 (by kernel_rfl)
def zBH a:=gV t28 1 13 [.agg [.qo 6 a]]
def x42:FFn:=zzm Tryz.f42 [(ys,[5]),([.i .i64],[6]),([.l 6],[11,13]),([.s],[16])] [] []
def t29:=zza t28 x42 Tryz.func42 (by kernel_rfl)
def zGo a:=gV t29 1 42 [.agg [.qo 6 a]]
def x30:FFn:=mk Tryz.f30 ⟨zzk [(yw,[15])],[(62,yo)],none,[],[]⟩
def t30:=zza t29 x30 Tryz.func30 (by kernel_rfl)
def z8 a b c d e f g:=gV t30 1 30 [.qc (.agg (yb a b c d e f g)) 0]
def x144:FFn:=zzm Tryz.f144 [] [] []
def t31:=zza t30 x144 Tryz.func144 (by kernel_rfl)
def zCN a:=gV t31 1 144 [.str a]
def x110:FFn:=zzm Tryz.f110 [([.b],[8,10])] [] []
def t32:=zza t31 x110 Tryz.func110 (by kernel_rfl)
def zB7 a b:=gV t32 1 110 [.str a,.str b]
def x109:FFn:=zzm Tryz.f109 [([.s],[6,8]),([.i .i64],[9])] [] []
def t33:=zza t32 x109 Tryz.func109 (by kernel_rfl)
def zDD a b c d e f g h i j k l m n:=gV t33 1 109 [.qc (.agg (yb a b c d e f g)) 0,.qc (.agg (yb h i j k l m n)) 0]
def x112:FFn:=zzm Tryz.f112 [([.s],[6,8])] [] []
def t34:=zza t33 x112 Tryz.func112 (by kernel_rfl)
def zE8 a b c d e f g h i j k l m n:=gV t34 1 112 [.qc (.agg (yb a b c d e f g)) 0,.qc (.agg (yb h i j k l m n)) 0]
def x53:FFn:=zzm Tryz.f53 [(yn,[7]),(ys,[10])] [] []
def t35:=zza t34 x53 Tryz.func53 (by kernel_rfl)
def zDh a:=gV t35 1 53 [.str a]
def x29:FFn:=zzm Tryz.f29 [(yk,[10,11,16,21]),([.i .i64],[18,23,28,29]),([.l 1],[36]),(yi,[39]),([.av],[40])] [] [.d [],.u 3,.q]
theorem fx29:FnX Tryz.prog 29 x29.xf:=⟨_,Tryz.func29,by kernel_rfl,by kernel_rfl⟩
def t36:=ad t35 true ⟨[(29,x29)],[]⟩ (.wR fx29 (by kernel_rfl) (.nil))
def zDi a b c:=gV t36 a 29 [.qo 6 b,.int .i64 c]
def x59:FFn:=zzm Tryz.f59 [([.i .i64],[7]),([.l 1],[12]),(yi,[13]),([.av],[14])] [] []
def t37:=zza t36 x59 Tryz.func59 (by kernel_rfl)
def zGp a b c d e f g:=gV t37 1 59 [.qc (.agg (yb a b c d e f g)) 0]
noncomputable def x61:FFn:=zan Tryz.prog Tryz.f61 [(4,1)] ⟨[(9,[.i .i64]),(18,[.c (.qj)]),(19,yi),(20,[.c (.qj)]),(26,[.c (.qj)]),(27,yi),(28,[.c (.qj)]),(29,[.l 1])],[(7000021,ym)],none,[],[.q]⟩
theorem fx61:FnX Tryz.prog 61 x61.xf:=⟨_,Tryz.func61,by kernel_rfl,by kernel_rfl⟩
def t38:=ad t37 true ⟨[(61,x61)],[⟨61,[],[],x61,ym⟩]⟩ (.wR fx61 (by kernel_rfl) (.wY fx61 (by kernel_rfl) (by kernel_rfl) (.nil)))
def zBI a b c d e f g h i:=gO t38 a 61 [.int .i64 b,.qc (.agg (yb c d e f g h i)) 0] [] []
def zAx a b c d e f g h i:=gV t38 a 61 [.int .i64 b,.qc (.agg (yb c d e f g h i)) 0]
def x103:FFn:=zzm Tryz.f103 [([.i .i64],[7])] [] []
def t39:=zza t38 x103 Tryz.func103 (by kernel_rfl)
def zDN a b c d e f g:=gV t39 1 103 [.qc (.agg (yb a b c d e f g)) 0]
def x104:FFn:=zzm Tryz.f104 [([.i .i64],[7]),([.l 1],[13]),(yi,[14]),([.av],[15]),([.b],[16])] [] []
def t40:=zza t39 x104 Tryz.func104 (by kernel_rfl)
def zEc a b c d e f g:=gV t40 1 104 [.qc (.agg (yb a b c d e f g)) 0]
def x105:FFn:=zzm Tryz.f105 [] [] []
def t41:=zza t40 x105 Tryz.func105 (by kernel_rfl)
def zFB :JF:=gV t41 1 105 ([])
def x106:FFn:=zzm Tryz.f106 [(yi,[14]),([.av],[15]),([.b],[16])] [] [zzc 7 [0,1,7,8]]
def t42:=zza t41 x106 Tryz.func106 (by kernel_rfl)
def zO a:=gV t42 1 106 [.qo 1 a,.func (.func 103) [] []]
def zv a b c d:=fV t42 0 7 x106 [a] [.qo 1 b,.func (.func 103) [] [],.int .i64 c,.int .i64 d] [] []
def zN a:=gV t42 1 106 [.qo 1 a,.func (.func 104) [] []]
def zu a b c d:=fV t42 0 7 x106 [a] [.qo 1 b,.func (.func 104) [] [],.int .i64 c,.int .i64 d] [] []
attribute [irreducible] x62 zEl zBy zBR zA2 x36 zGO zBb zCi zDz zB3 zBc zHu x57 zHv x56 x27 zCZ zBX x25 zR zEM zBl x158 zAS x135 zD4 x98 zh x26 zx x136 zCj x99 zAj x100 zAd x121 zAL x160 zDA x147 zGP x122 zBY x159 zAv zBf zU zBi zCk zAf zBr zCz zAh x161 zAw x78 zBZ x162 zAg x137 zCL zl zY zDe zBS zDf zAW zFi zAX x54 x101 x55 x24 zDB zAA zy zAD z5 zA zZ zDC zB6 x7 zDg zCM zEb x34 zW z6 x13 zBH x42 zGo x30 z8 x144 zCN x110 zB7 x109 zDD x112 zE8 x53 zDh x29 zDi x59 zGp x61 zBI zAx x103 zDN x104 zEc x105 zFB x106 zO zv zN zu
def zTD:JE->JF:=gV t39 1 103
def zTE:JE->JF:=gV t40 1 104
def zZm:JE->JF:=gV t33 1 109
def gEq:JE->JF:=gV t34 1 112
theorem zXa:zCd Tryz.prog G0 103 zTD:=(t39.ok zg).at
theorem zXb:zCd Tryz.prog G0 104 zTE:=(t40.ok zg).at
theorem zXc:zCd Tryz.prog G0 109 zZm:=(t33.ok zg).at
theorem zYx:zCd Tryz.prog G0 112 gEq:=(t34.ok zg).at
def zWu:TbF:=[(103,zTD),(104,zTE)]
def zGq:JE->Heap->Vecs->Option (AV×Heap×Vecs):=zTJ zWu
def zHz:JE->Heap->Vecs->Option (AV×Heap×Vecs):=zPP 112 gEq
def zH1:JE->JF
 |[.qc (.agg [.int .i64 k,.str a,.str b,.int .i64 n,.int .i64 l,.int .i64 r,.qo 1 ps]) 0]=>z8 k a b n l r ps
 |_=>none
def zHA:JE->Heap->Vecs->Option (AV×Heap×Vecs):=zNS 109 (λs t=>decide (zIS s t<0)) zH1
theorem Qj1(a0_0:Int)(a0_1:JV)(a0_2:JV)(a0_3:Int)(a0_4:Int)(a0_5:Int)(a0_6:JE)(b1_0:Int)(b1_1:JV)(b1_2:JV)(b1_3:Int)(b1_4:Int)(b1_5:Int)(b1_6:JE):zDD a0_0 a0_1 a0_2 a0_3 a0_4 a0_5 a0_6 b1_0 b1_1 b1_2 b1_3 b1_4 b1_5 b1_6=dK true [.s] (z8 a0_0 a0_1 a0_2 a0_3 a0_4 a0_5 a0_6) λs=>dK true [.s] (z8 b1_0 b1_1 b1_2 b1_3 b1_4 b1_5 b1_6) λs1=>dK true [.i .i64] (zB7 s s1) λn=>some (.int .i64 n):=by kernel_rfl
theorem zah(x0:JV)(y1:JV):zB7 x0 y1=dK true [.b] (zCN x0) λb=>dK true [.b] (zCN y1) λb1=>br b (br b1 (some (.int .i64 (Int.ofNat 0))) (some (.int .i64 (Int.negSucc 0)))) (br b1 (some (.int .i64 (Int.ofNat 1))) (br (slt x0 y1) (some (.int .i64 (Int.negSucc 0))) (br (!(slt x0 y1||seqb x0 y1)) (some (.int .i64 (Int.ofNat 1))) (some (.int .i64 (Int.ofNat 0)))))):=by kernel_rfl
theorem zai(x0:JV):zCN x0=some (.bool !seqb x0 x0):=by kernel_rfl
theorem zQD {f:Nat} {fn:Func} (h:Tryz.prog.funcs[f]?=some fn) (hb:fn.body.isSome=true) (hn:(fn.name == "runtime.NumGoroutine")=false):Go.Sy.Enters Tryz.prog f:=by
 obtain⟨body,hbo⟩:=Option.isSome_iff_exists.1 hb;exact⟨fn,body,h,hbo,hn⟩
theorem zON{a:AV}{s:JV}(h:zH1 [a]=some (.str s)):∃k b c n l r ps,a=.qc (.agg [.int .i64 k,.str b,.str c,.int .i64 n,.int .i64 l,.int .i64 r,.qo 1 ps]) 0/\z8 k b c n l r ps=some (.str s):=by
 unfold zH1 at h;split at h
 .rename_i he;cases he;exact⟨_,_,_,_,_,_,_,rfl,h⟩
 .cases h
theorem zUd(s:JV):zCN s=some (.bool false):=by rw[zai,zIo];rfl
theorem zYy(s t:JV):zB7 s t=some (.int .i64 (zIS s t)):=by
 rw[zah,zUd,zUd];show(match slt s t with|true=>some (.int .i64 (Int.negSucc 0))|false=>match !(slt s t||seqb s t)with|true=>some (.int .i64 (Int.ofNat 1))|false=>some (.int .i64 (Int.ofNat 0)):JF)=_
 unfold zIS;cases slt s t with
 |true=>rfl
 |false=>cases seqb s t<;>rfl
theorem zXd(a b:AV)(s t:JV)(h:zH1 [a]=some (.str s))(k:zH1 [b]=some (.str t)):zZm [a,b]=some (.int .i64 (zIS s t)):=by
 obtain⟨k1,b1,c1,n1,l1,r1,p1,rfl,h1⟩:=zON h;obtain⟨k2,b2,c2,n2,l2,r2,p2,rfl,h2⟩:=zON k;have e:=Qj1 k1 b1 c1 n1 l1 r1 p1 k2 b2 c2 n2 l2 r2 p2;rw[h1,h2]at e;have e2:zDD k1 b1 c1 n1 l1 r1 p1 k2 b2 c2 n2 l2 r2 p2=dK true [.i .i64] (zB7 s t) λn=>some (.int .i64 n):=e
 rw[zYy]at e2;have e3:zDD k1 b1 c1 n1 l1 r1 p1 k2 b2 c2 n2 l2 r2 p2=some (.int .i64 (zIS s t)):=e2;unfold zDD at e3;exact e3
theorem zOa{ds:List D}:FOK Tryz.prog G0 ⟨107,[],zGq,ds⟩:=
 zX5 zMN (λf' g h=>by
  unfold zWu at h;simp only[zGv]at h;split at h
  .rename_i e;cases h;rw[Nat.eq_of_beq_eq_true e];exact⟨zXa,enters_of Tryz.func103 (by kernel_rfl) rfl⟩
  .split at h
   .rename_i e;cases h;rw[Nat.eq_of_beq_eq_true e];exact⟨zXb,enters_of Tryz.func104 (by kernel_rfl) rfl⟩
   .cases h) (zQD Tryz.func107 (by kernel_rfl) (by kernel_rfl))
  λp g heg blk cap d w h1 h2 h3 h4 h5=>zMM PV.v PV.one p g heg PV.z rfl blk 0 cap d w h1 h2 h3 h4 h5
theorem zM2{ds:List D}:FOK Tryz.prog G0 ⟨111,[],zHz,ds⟩:=
 zV2 zMN zYx (enters_of Tryz.func112 (by kernel_rfl) rfl) (zQD Tryz.func111 (by kernel_rfl) (by kernel_rfl)) (λv p n cap w h=>zIF v p n cap w h)
  λq blk cap d w h1 h2 h3 h4 h5 h6=>zMe PV.v PV.one q 112 (enters_of Tryz.func112 (by kernel_rfl) rfl) PV.z rfl blk 0 cap d w h1 h2 h3 h4 h5 h6
theorem zM3{ds:List D}:FOK Tryz.prog G0 ⟨108,[(0,0)],zHA,ds⟩:=
 zVa zMN zXc (enters_of Tryz.func109 (by kernel_rfl) rfl) (zQD Tryz.func108 (by kernel_rfl) (by kernel_rfl)) (by rw[zPW];exact zR3) (λs t h k=>by rw[zR4]at h k;exact zPV h k) zXd
  (λp cap fv w=>AnyF.slices_SortFunc_none { Tryz.sortTree with } p cap fv w)
  λα inst enc h1 cf hO blk cap d w hl hH hb hz=>Any.slices_SortFunc Tryz.sortTree enc h1 cf hO 109 #[] blk 0 cap d w (enters_of Tryz.func109 (by kernel_rfl) rfl) hl hH hb hz
def t43:Tb Tryz.prog G0:=t42.v7 (e:=⟨107,[],zGq,ym⟩) zOa
def zEN(a:JE):Option (AV×Heap×Vecs):=zGq ([.sym 0,.func (.func 104) [] []]) ([]) ([(0,.vec 1 a)])
def zFj(a:JE):Option (AV×Heap×Vecs):=zGq ([.sym 0,.func (.func 103) [] []]) ([]) ([(0,.vec 1 a)])
def t44:Tb Tryz.prog G0:=t43.v7 (e:=⟨108,[(0,0)],zHA,yv⟩) zM3
def zB8(a:JE):Option (AV×Heap×Vecs):=zHA ([.sym 0,.func (.func 109) [] []]) ([]) ([(0,.vec 1 a)])
def t45:Tb Tryz.prog G0:=t44.v7 (e:=⟨111,[],zHz,ym⟩) zM2
def zB9(a:JE):Option (AV×Heap×Vecs):=zHz ([.sym 0,.func (.func 112) [] []]) ([]) ([(0,.vec 1 a)])
def x60:FFn:=mk Tryz.f60 ⟨zzk [(yi,[12,15,16,25,45]),([.i .i64],[19]),([.av],[24,39,46]),([.qg 0,.ep 0,.agg 7,.i .i64,.s,.s,.i .i64,.i .i64,.i .i64,.l 1],[38]),([.c (.qj)],[51])],[(107,ym),(108,yv),(111,ym),(2000053,[])],none,[],[zzc 20 [0,9,41,42,43]]⟩
def t46:=zzo t45 [] [] x60 [.v (.ep 0),.v (.agg 7),.v (.i .i64),.v .s,.v .s,.v (.i .i64),.v (.i .i64),.v (.i .i64),.v (.l 1),.vec 0 1] Tryz.func60 (by kernel_rfl)
def zF6 a b:=gO t46 1 60 [.int .i64 b,.sym 0] [] [(0,.vec 1 a)]
def zAY a b c d e f g h i j k l:=fO t46 0 20 x60 [] [a] [.int .i64 b,.qc (.agg (yb c d e f g h i)) 0,.qo 1 j,.int .i64 k,.int .i64 l] [] []
def x28:FFn:=mk Tryz.f28 ⟨zzk [([.i .i64],[9]),([.l 1],[15,26,33,55]),(yi,[16,18,19,27,29,34,36]),([.av],[17,28,35]),([.c (.qj)],[41,46,53])],[(7000048,ym),(7000057,yt)],none,[(5,1000,⟨[0,20],[],0⟩)],[.q,.q]⟩
theorem fx28:FnX Tryz.prog 28 x28.xf:=⟨_,Tryz.func28,by kernel_rfl,by kernel_rfl⟩
def t47:=ad t46 true ⟨[(28,x28)],[]⟩ (.wR fx28 (by kernel_rfl) (.nil))
def zDj a b c d e f g h:=gV t47 a 28 [.qc (.agg (yb b c d e f g h)) 0]
def zEd a b c d e f g h i:=fV t47 a 1000 x28 [] [.qc (.agg (yb b c d e f g h)) 0,.bool i] [] []
def x8:FFn:=zzm Tryz.f8 [(ys,[7,26]),([.i .i64],[8]),([.l 6],[15,17]),(yi,[20,21]),([.s],[22]),(yn,[23])] [] []
def t48:=zza t47 x8 Tryz.func8 (by kernel_rfl)
def zCl a:=gV t48 1 8 [.agg [.qo 6 a]]
def x23:FFn:=zzm Tryz.f23 [(ys,[9,14]),(yp,[10]),(yw,[15])] [] []
def t49:=zza t48 x23 Tryz.func23 (by kernel_rfl)
def zCm a:=gV t49 1 23 [.str a]
def x6:FFn:=zzm Tryz.f6 [([.s],[1])] [] []
def t50:=zza t49 x6 Tryz.func6 (by kernel_rfl)
def zCn :JF:=gV t50 1 6 ([])
def x12:FFn:=zzm Tryz.f12 [([.l 6],[7,10,15,21,26]),(yk,[23,24,28,29])] [] [zzc 8 [2,3,5],.q]
def t51:=zza t50 x12 Tryz.func12 (by kernel_rfl)
def zCa a b:=gV t51 1 12 [.agg [.qo 6 a],.agg [.qo 6 b]]
def zAB a b c d:=fV t51 0 8 x12 [a] [.ptr 0 0,.ptr 1 0,.int .i64 b] [(0,.cells false [.qo 6 c]),(1,.cells false [.qo 6 d])] []
def x73:FFn:=zzm Tryz.f73 [([.i .u8],[28,29]),([.b],[38])] [(1,[0]),(2,[0,22]),(10,[24,25,26,44])] [zzc 9 [24,25,26]]
def t52:=zza t51 x73 Tryz.func73 (by kernel_rfl)
def zGQ a:=gV t52 1 73 [.str a]
def zAT a b c d e:=fV t52 0 1002 x73 [a] [.sym 0,.int .i64 b,.int .i64 c,.bool d] [] [(0,.vec 1 e)]
def zDE a b c d:=fV t52 0 9 x73 [a] [.sym 0,.int .i64 b,.int .i64 c] [] [(0,.vec 1 d)]
def zHw a:=fV t52 0 1000 x73 [] [.str a] [] []
def zBs a b:=fV t52 0 1001 x73 [] [.str a,.bool b] [] []
def x74:FFn:=zzm Tryz.f74 [([.i .u8],[18,19]),([.b],[21])] [(1,[0])] [zzc 9 [14,15,16]]
def t53:=zza t52 x74 Tryz.func74 (by kernel_rfl)
def zGR a:=gV t53 1 74 [.str a]
def zDF a b c d:=fV t53 0 9 x74 [a] [.sym 0,.int .i64 b,.int .i64 c] [] [(0,.vec 1 d)]
def zHx a:=fV t53 0 1000 x74 [] [.str a] [] []
def x37:FFn:=zzm Tryz.f37 [(yq,[13,14,34]),([.s],[16,21,30,36]),([.b],[17,22])] [(10,[0,8,9,10,39])] [zzc 9 [0,8,9,10],.q]
def t54:=zza t53 x37 Tryz.func37 (by kernel_rfl)
def zHy a:=gV t54 1 37 [.qo 2 a]
def zBT a b c d e f:=fV t54 0 1000 x37 [a] [.qo 2 b,.qo 2 c,.int .i64 d,.int .i64 e,.bool f] [] []
def zEe a b c d e:=fV t54 0 9 x37 [a] [.qo 2 b,.qo 2 c,.int .i64 d,.int .i64 e] [] []
def x76:FFn:=zzm Tryz.f76 [([.s],[5,7])] [] []
def t55:=zza t54 x76 Tryz.func76 (by kernel_rfl)
def zI0 a b c d e f g h:=gV t55 1 76 [.agg [.str a,.str b],.qc (.agg (yc c d e f g h)) 0]
def x75:FFn:=zzm Tryz.f75 [(yq,[14,15]),([.b],[16])] [] [zzc 7 [0,1,7,8]]
def t56:=zza t55 x75 Tryz.func75 (by kernel_rfl)
def zG a b c d e f g:=gV t56 1 75 [.qo 2 a,.func (.func 76) [] [.qc (.agg (yc b c d e f g)) 0]]
def zB a b c d e f g h i j:=fV t56 0 7 x75 [a] [.qo 2 b,.func (.func 76) [] [.qc (.agg (yc c d e f g h)) 0],.int .i64 i,.int .i64 j] [] []
def x77:FFn:=zzm Tryz.f77 [([.i .u8],[18,19]),([.b],[21])] [(1,[0])] [zzc 9 [14,15,16]]
def t57:=zza t56 x77 Tryz.func77 (by kernel_rfl)
def zEf a:=gV t57 1 77 [.str a]
def zCO a b c d:=fV t57 0 9 x77 [a] [.sym 0,.int .i64 b,.int .i64 c] [] [(0,.vec 1 d)]
def zGC a:=fV t57 0 1000 x77 [] [.str a] [] []
def x38:FFn:=zzm Tryz.f38 [(yk,[11,12]),([.i .i64],[15,17,66,68,89,91,98,106,112,120,126]),(yq,[27,41,55,63,78,86]),([.s],[29,31,43,45,57,65,80,88]),([.b],[58,81,100,108,114,122,128])] [] [.q,.q,.q,.q]
theorem fx38:FnX Tryz.prog 38 x38.xf:=⟨_,Tryz.func38,by kernel_rfl,by kernel_rfl⟩
def t58:=ad t57 true ⟨[(38,x38)],[]⟩ (.wR fx38 (by kernel_rfl) (.nil))
def zAM a b c d:=gV t58 a 38 [.qo 6 b,.int .i64 c,.qo 2 d]
def x14:FFn:=zzm Tryz.f14 [(ys,[8]),([.i .i64],[9,14]),([.l 6],[19,21]),([.b],[25])] [] []
def t59:=zza t58 x14 Tryz.func14 (by kernel_rfl)
def zCo a b:=gV t59 1 14 [.agg [.qo 6 a],.qo 2 b]
def x10:FFn:=zzm Tryz.f10 [(ys,[10,18]),(yp,[11,19]),([.l 6],[26,28]),([.b],[29])] [] []
def t60:=zza t59 x10 Tryz.func10 (by kernel_rfl)
def zGS a b:=gV t60 1 10 [.agg [.qo 6 a],.agg [.qo 6 b]]
def x4:FFn:=zzm Tryz.f4 [([.b],[17,60]),(yn,[21]),(yr,[24]),(ys,[28,33,44,58,59,80,81]),(yp,[29,34]),([.i .i64],[45]),([.l 6],[50,53]),([.qg 0],[64,72]),(yu,[68,76,82])] [(10,[1,5,7]),(11,[1,5,7,62])] [.q,.q]
def t61:=zza t60 x4 Tryz.func4 (by kernel_rfl)
def zBj a b:=gV t61 1 4 [.str a,.qo 2 b]
def zCp a b c:=fV t61 0 1000 x4 [] [.qo 2 a,.ptr 0 0,.ptr 1 0] [(0,.cells false [.qo 6 b]),(1,.cells false [.qo 6 c])] []
def zL a b c d:=fV t61 0 1001 x4 [] [.qo 2 a,.ptr 0 0,.ptr 1 0,.bool b] [(0,.cells false [.qo 6 c]),(1,.cells false [.qo 6 d])] []
attribute [irreducible] x60 zF6 zAY x28 zDj zEd x8 zCl x23 zCm x6 zCn x12 zCa zAB x73 zGQ zAT zDE zHw zBs x74 zGR zDF zHx x37 zHy zBT zEe x76 zI0 x75 zG zB x77 zEf zCO zGC x38 zAM x14 zCo x10 zGS x4 zBj zCp zL
end
end Go.Proofs.YtcolommdbibghaaGreatDoor.canon
