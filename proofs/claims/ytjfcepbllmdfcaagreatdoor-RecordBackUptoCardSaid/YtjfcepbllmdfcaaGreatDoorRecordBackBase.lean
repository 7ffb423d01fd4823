/- THE LAW'S BASE: the package variables that it reads, and what Go's library gives. No condition. -/
import Derived.Test.YtjfcepbllmdfcaaGreatDoorFxF
import Derived.Test.YtjfcepbllmdfcaaGreatDoorChecked
import Derived.WalkKit
import Derived.Lib.SmallJoins
import Derived.Test.YtjfcepbllmdfcaaGreatDoorShelf
import Derived.WalkKit
set_option linter.unusedVariables false
set_option linter.unusedSimpArgs false
set_option linter.unusedSectionVars false
namespace Go.Proofs.YtjfcepbllmdfcaaGreatDoor.record
open Go.Sy
theorem own:ownKnob Tryz.prog.godebug=none:=by kernel_rfl
theorem mixed:Tryz.prog.follows .mixedOrders=true:=by kernel_rfl
noncomputable def zUB:List Int:=[0,1,28,2,29,14,24,3,30,22,20,15,25,17,4,8,31,27,13,23,21,19,16,7,26,12,18,6,11,5,10,9]
noncomputable def zPC:JE:=[.int .u8 0,.int .u8 1,.int .u8 28,.int .u8 2,.int .u8 29,.int .u8 14,.int .u8 24,.int .u8 3,.int .u8 30,.int .u8 22,.int .u8 20,.int .u8 15,.int .u8 25,.int .u8 17,.int .u8 4,.int .u8 8,.int .u8 31,.int .u8 27,.int .u8 13,.int .u8 23,.int .u8 21,.int .u8 19,.int .u8 16,.int .u8 7,.int .u8 26,.int .u8 12,.int .u8 18,.int .u8 6,.int .u8 11,.int .u8 5,.int .u8 10,.int .u8 9]
noncomputable def zUC:List Int:=[0,1,56,2,57,49,28,3,61,58,42,50,38,29,17,4,62,47,59,36,45,43,51,22,53,39,33,30,24,18,12,5,63,55,48,27,60,41,37,16,46,35,44,21,52,32,23,11,54,26,40,15,34,20,31,10,25,14,19,9,13,8,7,6]
noncomputable def zPD:JE:=[.int .u8 0,.int .u8 1,.int .u8 56,.int .u8 2,.int .u8 57,.int .u8 49,.int .u8 28,.int .u8 3,.int .u8 61,.int .u8 58,.int .u8 42,.int .u8 50,.int .u8 38,.int .u8 29,.int .u8 17,.int .u8 4,.int .u8 62,.int .u8 47,.int .u8 59,.int .u8 36,.int .u8 45,.int .u8 43,.int .u8 51,.int .u8 22,.int .u8 53,.int .u8 39,.int .u8 33,.int .u8 30,.int .u8 24,.int .u8 18,.int .u8 12,.int .u8 5,.int .u8 63,.int .u8 55,.int .u8 48,.int .u8 27,.int .u8 60,.int .u8 41,.int .u8 37,.int .u8 16,.int .u8 46,.int .u8 35,.int .u8 44,.int .u8 21,.int .u8 52,.int .u8 32,.int .u8 23,.int .u8 11,.int .u8 54,.int .u8 26,.int .u8 40,.int .u8 15,.int .u8 34,.int .u8 20,.int .u8 31,.int .u8 10,.int .u8 25,.int .u8 14,.int .u8 19,.int .u8 9,.int .u8 13,.int .u8 8,.int .u8 7,.int .u8 6]
noncomputable def zUD:List Int:=[1,10,100,1000,10000,100000,1000000,10000000,100000000,1000000000,10000000000,100000000000,1000000000000,10000000000000,100000000000000,1000000000000000,10000000000000000,100000000000000000,1000000000000000000,10000000000000000000]
noncomputable def zK6:JE:=[.int .u64 1,.int .u64 10,.int .u64 100,.int .u64 1000,.int .u64 10000,.int .u64 100000,.int .u64 1000000,.int .u64 10000000,.int .u64 100000000,.int .u64 1000000000,.int .u64 10000000000,.int .u64 100000000000,.int .u64 1000000000000,.int .u64 10000000000000,.int .u64 100000000000000,.int .u64 1000000000000000,.int .u64 10000000000000000,.int .u64 100000000000000000,.int .u64 1000000000000000000,.int .u64 10000000000000000000]
class MX where
 n:Int
variable[MX]
noncomputable def zMr:Cx:=⟨λn=>match Nat.beq n 0 with
 |true=>some (.qc (.agg [.int .i64 MX.n]) 0)
 |false=>match Nat.beq n 4 with
 |true=>some (.qc (.agg zPC) 0)
 |false=>match Nat.beq n 5 with
 |true=>some (.qc (.agg zPD) 0)
 |false=>match Nat.beq n 3 with
 |true=>some (.qc (.agg zK6) 0)
 |false=>match Nat.beq n 2 with
 |true=>some (.qc (.agg [.iface 222 (.qc (.agg [.str [118,97,108,117,101,32,111,117,116,32,111,102,32,114,97,110,103,101]]) 0)]) 0)
 |false=>match Nat.beq n 1 with
 |true=>some (.qc (.agg [.iface 222 (.qc (.agg [.str [105,110,118,97,108,105,100,32,115,121,110,116,97,120]]) 0)]) 0)
 |false=>none,λ_ _=>none⟩
theorem zXP:zAZ Tryz.prog zMr:=λ_ _ _ h=>by cases h
theorem zXQ:zSk zMr:=λg v h=>by
 simp only[zMr]at h;split at h
 .cases h;kernel_rfl
 split at h
 .cases h;kernel_rfl
 split at h
 .cases h;kernel_rfl
 split at h
 .cases h;kernel_rfl
 split at h
 .cases h;kernel_rfl
 split at h
 .cases h;kernel_rfl
 cases h
theorem zfg {l:List (String×DataW Unit)} {W:World} {σ:Nat->Value} (hL:laidMet Tryz.prog l W) (hm:("math/bits.deBruijn32tab",Lib.tabData .u8 zUB)∈l):VR (Env.still W σ) W (.qc (.agg zPC) 0) (.pointer (some ⟨4,0,none⟩))/\zET W 4 (.qc (.agg zPC) 0):=by
 have e:zPC=zUB.map λz=>.int .u8 z:=by kernel_rfl
 rw[e];exact zRh hL hm (by kernel_rfl) (t:=230) (e:=5) (len:=32) (by kernel_rfl) (by kernel_rfl) (by kernel_rfl) (by kernel_rfl) (by kernel_rfl) (by kernel_rfl)
theorem zfh {l:List (String×DataW Unit)} {W:World} {σ:Nat->Value} (hL:laidMet Tryz.prog l W) (hm:("math/bits.deBruijn64tab",Lib.tabData .u8 zUC)∈l):VR (Env.still W σ) W (.qc (.agg zPD) 0) (.pointer (some ⟨5,0,none⟩))/\zET W 5 (.qc (.agg zPD) 0):=by
 have e:zPD=zUC.map λz=>.int .u8 z:=by kernel_rfl
 rw[e];exact zRh hL hm (by kernel_rfl) (t:=231) (e:=5) (len:=64) (by kernel_rfl) (by kernel_rfl) (by kernel_rfl) (by kernel_rfl) (by kernel_rfl) (by kernel_rfl)
theorem zfi {l:List (String×DataW Unit)} {W:World} {σ:Nat->Value} (hL:laidMet Tryz.prog l W) (hm:("internal/strconv.uint64pow10",Lib.tabData .u64 zUD)∈l):VR (Env.still W σ) W (.qc (.agg zK6) 0) (.pointer (some ⟨3,0,none⟩))/\zET W 3 (.qc (.agg zK6) 0):=by
 have e:zK6=zUD.map λz=>.int .u64 z:=by kernel_rfl
 rw[e];exact zRh hL hm (by kernel_rfl) (t:=206) (e:=34) (len:=20) (by kernel_rfl) (by kernel_rfl) (by kernel_rfl) (by kernel_rfl) (by kernel_rfl) (by kernel_rfl)
theorem star : "*" ++ "errors.errorString" = "*errors.errorString":=by decide
theorem zZq (u:TypeId) (h:Tryz.prog.typeName? 3 u=some "*errors.errorString"):u=222:=
 typeName_ptr_named (nm := "errors.errorString") (by rw[star];kernel_rfl) (by kernel_rfl) (by decide) u (by rw[star];exact h)
theorem zfj {l:List (String×DataW Unit)} {W:World} {σ:Nat->Value} (hL:laidMet Tryz.prog l W) (hm:("strconv.ErrRange",(.iface "*errors.errorString" (.ptr (.agg [.lit (.string [118,97,108,117,101,32,111,117,116,32,111,102,32,114,97,110,103,101])])):DataW Unit))∈l):
  VR (Env.still W σ) W (.qc (.agg [.iface 222 (.qc (.agg [.str [118,97,108,117,101,32,111,117,116,32,111,102,32,114,97,110,103,101]]) 0)]) 0) (.pointer (some ⟨2,0,none⟩))/\zET W 2 (.qc (.agg [.iface 222 (.qc (.agg [.str [118,97,108,117,101,32,111,117,116,32,111,102,32,114,97,110,103,101]]) 0)]) 0):=
 zTK hL hm (by kernel_rfl) (by kernel_rfl) Tryz.underlying132 zZq Tryz.underlying222 Tryz.underlying224 rfl rfl Tryz.underlying9 (by kernel_rfl) (by kernel_rfl)
theorem zfk {l:List (String×DataW Unit)} {W:World} {σ:Nat->Value} (hL:laidMet Tryz.prog l W) (hm:("strconv.ErrSyntax",(.iface "*errors.errorString" (.ptr (.agg [.lit (.string [105,110,118,97,108,105,100,32,115,121,110,116,97,120])])):DataW Unit))∈l):
  VR (Env.still W σ) W (.qc (.agg [.iface 222 (.qc (.agg [.str [105,110,118,97,108,105,100,32,115,121,110,116,97,120]]) 0)]) 0) (.pointer (some ⟨1,0,none⟩))/\zET W 1 (.qc (.agg [.iface 222 (.qc (.agg [.str [105,110,118,97,108,105,100,32,115,121,110,116,97,120]]) 0)]) 0):=
 zTK hL hm (by kernel_rfl) (by kernel_rfl) Tryz.underlying132 zZq Tryz.underlying222 Tryz.underlying224 rfl rfl Tryz.underlying9 (by kernel_rfl) (by kernel_rfl)
theorem zfl{W:World}{σ:Nat->Value}(hb:∃c t e,W.heap[0]?=some (.cells c t e)/\c.size=1)(hm:W.cell? ⟨0,0,none⟩=some (.int .i64 MX.n))(hh:has .i64 MX.n):VR (Env.still W σ) W (.qc (.agg [.int .i64 MX.n]) 0) (.pointer (some ⟨0,0,none⟩))/\zET W 0 (.qc (.agg [.int .i64 MX.n]) 0):=by
 obtain⟨c,t,e,h1,h2⟩:=hb;refine⟨.qc _ 0 0 0 (.agg #[.int .i64 MX.n]) rfl (Array.getElem?_eq_some_iff.1 h1).1 ?_ λj cc hj=>?_,λcs n hq=>?_⟩
 .exact VR.qP (.cons (.int _ _ hh) .nil) λv hv=>by rw[QU.1 hv];rfl
 .have hj0:j=0:=by
   have:=(Array.getElem?_eq_some_iff.1 hj).1;simp[Value.cells]at this;omega
  subst hj0;have hc:cc=.int .i64 MX.n:=by simpa[Value.cells]using hj.symm
  rw[hc];exact hm
 .cases hq;exact⟨c,t,e,h1,h2⟩
theorem zaL {l:List (String×DataW Unit)} {W:World} {σ:Nat->Value} (hL:laidMet Tryz.prog l W) (vJ:∃c t e,W.heap[0]?=some (.cells c t e)/\c.size=1) (hm1:W.cell? ⟨0,0,none⟩=some (.int .i64 MX.n)) (hh1:has .i64 MX.n) (h4:("math/bits.deBruijn32tab",Lib.tabData .u8 zUB)∈l) (h5:("math/bits.deBruijn64tab",Lib.tabData .u8 zUC)∈l) (h0:("internal/strconv.uint64pow10",Lib.tabData .u64 zUD)∈l) (h7:("strconv.ErrRange",(.iface "*errors.errorString" (.ptr (.agg [.lit (.string [118,97,108,117,101,32,111,117,116,32,111,102,32,114,97,110,103,101])])):DataW Unit))∈l) (h6:("strconv.ErrSyntax",(.iface "*errors.errorString" (.ptr (.agg [.lit (.string [105,110,118,97,108,105,100,32,115,121,110,116,97,120])])):DataW Unit))∈l):GR zMr (Env.still W σ) W:=λg v h=>by
 simp only[zMr]at h;split at h
 .rename_i hb;cases h;rw[Nat.eq_of_beq_eq_true hb];exact zfl vJ hm1 hh1
 split at h
 .rename_i hb;cases h;rw[Nat.eq_of_beq_eq_true hb];exact zfg hL h4
 split at h
 .rename_i hb;cases h;rw[Nat.eq_of_beq_eq_true hb];exact zfh hL h5
 split at h
 .rename_i hb;cases h;rw[Nat.eq_of_beq_eq_true hb];exact zfi hL h0
 split at h
 .rename_i hb;cases h;rw[Nat.eq_of_beq_eq_true hb];exact zfj hL h7
 split at h
 .rename_i hb;cases h;rw[Nat.eq_of_beq_eq_true hb];exact zfk hL h6
 cases h
end Go.Proofs.YtjfcepbllmdfcaaGreatDoor.record
namespace Go.Proofs.YtjfcepbllmdfcaaGreatDoor.record
open Go Go.Sy Go.RowKit
variable[MX]
noncomputable def G0:Cx:=zMr
theorem zVu(k:IntKind)(zs:List Int):PP (.qc (.agg (zs.map λz=>.int k z)) 0):=.qc _ _ (.agg _ λx hx=>by
 obtain⟨z,_,rfl⟩:=QR.1 hx;exact .int _ _)
theorem zWS(t:Nat)(s:JV):PP (.qc (.agg [.iface t (.qc (.agg [.str s]) 0)]) 0):=.qc _ _ (.agg _ λx hx=>by
 rw[QU.1 hx];exact .iface _ _ (.qc _ _ (.agg _ λy hy=>by rw[QU.1 hy];exact .str _)))
theorem zcJ:zPC=zUB.map λz=>.int .u8 z:=by kernel_rfl
theorem zcK:zPD=zUC.map λz=>.int .u8 z:=by kernel_rfl
theorem zcL:zK6=zUD.map λz=>.int .u64 z:=by kernel_rfl
theorem zXR:GPP G0:=λg v h=>by
 have h:zMr.wN g=some v:=h;simp only[zMr]at h;split at h
 .cases h;exact .qc _ _ (.agg _ λx hx=>by rw[QU.1 hx];exact .int _ _)
 split at h
 .cases h;rw[zcJ];exact zVu _ _
 split at h
 .cases h;rw[zcK];exact zVu _ _
 split at h
 .cases h;rw[zcL];exact zVu _ _
 split at h
 .cases h;exact zWS _ _
 split at h
 .cases h;exact zWS _ _
 cases h
theorem zcM:zAZ Tryz.prog G0:=zXP
theorem mix:Tryz.prog.follows .mixedOrders=true:=mixed
theorem zfm:zK6=Lib.pow10Tab.map λz=>.int .u64 z:=by kernel_rfl
noncomputable def zH4:JE->JF:=fmtG
theorem zK7:zB4 Tryz.prog G0 96 zH4:=by
 have hbo:Tryz.f96.body.isSome=true:=by kernel_rfl
 obtain⟨body,hbo⟩:=Option.isSome_iff_exists.1 hbo;refine zcG (g:=3) Tryz.func96 hbo (by kernel_rfl) (by kernel_rfl) ?_ λn h0 h1 w ht=>Tryz.strconv_FormatInt_10 n h0 h1 w ht
 show some (AV.qc (.agg zK6) 0)=_
 rw[zfm]
noncomputable def zH5:JE->JF:=zbA
theorem zK8:zB4 Tryz.prog G0 119 zH5:=by
 have hbo:Tryz.f119.body.isSome=true:=by kernel_rfl
 obtain⟨body,hbo⟩:=Option.isSome_iff_exists.1 hbo;exact zcF Tryz.func119 hbo (by kernel_rfl) λs c w=>Tryz.strings_IndexByte s c w
noncomputable def zEA:JE->JF:=zUA 188 (.iface 222 (.qc (.agg [.str [105,110,118,97,108,105,100,32,115,121,110,116,97,120]]) 0)) (.iface 222 (.qc (.agg [.str [118,97,108,117,101,32,111,117,116,32,111,102,32,114,97,110,103,101]]) 0))
theorem zLF:zB4 Tryz.prog G0 200 zEA:=by
 have hbo:Tryz.f200.body.isSome=true:=by kernel_rfl
 obtain⟨body,hbo⟩:=Option.isSome_iff_exists.1 hbo;refine zaI (gs:=1) (gr:=2) (ty:=203) Tryz.func200 hbo (by kernel_rfl) zXR rfl rfl (λs hmax v h w=>(Tryz.strconv_ParseInt_10_at64_ok s hmax v h w).mono λe w' h=>⟨h.1,?_⟩) (λs hlim h h' ev w hv hev=>Any.strconv_ParseInt_10_at64_syntax Tryz.laysC174 s hlim (by
  revert h h'
  cases Lib.parseIntB 64 s.data.toList with
  |ok v=>exact λh _=>absurd rfl (h v)
  |range=>exact λ_ h=>absurd rfl h
  |_=>exact λ_ _=>rfl) ev w hv hev) λs hlim h ev w hv hev=>Tryz.strconv_ParseInt_10_at64_range s hlim h ev w hv hev
 rcases h.2 with rfl|⟨t,rfl⟩
 .exact Below.refl _ _
 .exact Lib.bytesWorld_below _ _ _
noncomputable def zHD:JE->JF:=zYo 188 (.iface 222 (.qc (.agg [.str [105,110,118,97,108,105,100,32,115,121,110,116,97,120]]) 0)) (.iface 222 (.qc (.agg [.str [118,97,108,117,101,32,111,117,116,32,111,102,32,114,97,110,103,101]]) 0))
theorem zOz:zB4 Tryz.prog G0 92 zHD:=by
  have hbo:Tryz.f92.body.isSome=true:=by kernel_rfl
  obtain⟨body,hbo⟩:=Option.isSome_iff_exists.1 hbo;refine zaJ (gs:=1) (gr:=2) (ty:=203) Tryz.func92 hbo (by kernel_rfl) zXR rfl rfl (λs hmax v h w=>(Tryz.strconv_Atoi_ok s hmax v h w).mono λe w' h=>⟨h.1,?_⟩) (λs hlim h h' ev w hv hev=>Any.strconv_Atoi_syntax Tryz.laysC172 s hlim (by
    revert h h'
    cases Lib.atoiAll s.data.toList with
    |ok v=>exact λh _=>absurd rfl (h v)
    |range=>exact λ_ h=>absurd rfl h
    |_=>exact λ_ _=>rfl) ev w hv hev) λs hlim h ev w hv hev=>Tryz.strconv_Atoi_range s hlim h ev w hv hev
  rcases h.2 with rfl|⟨t,rfl⟩
  .exact Below.refl _ _
  .exact Lib.bytesWorld_below _ _ _
noncomputable def zL5:JE->JF:=zV2
theorem zPE:zB4 Tryz.prog G0 91 zL5:=by
  have hbo:Tryz.f91.body.isSome=true:=by kernel_rfl
  obtain⟨body,hbo⟩:=Option.isSome_iff_exists.1 hbo;exact zcH (g:=0) (m:=MX.n) Tryz.func91 hbo (by kernel_rfl) rfl λs sep w hs hm=>Tryz.strings_Cut s sep MX.n w hs hm
noncomputable def zJZ:JE->JF:=zVr
theorem zNM:zB4 Tryz.prog G0 99 zJZ:=by
  have hbo:Tryz.f99.body.isSome=true:=by kernel_rfl
  obtain⟨body,hbo⟩:=Option.isSome_iff_exists.1 hbo;exact zZp (g:=0) (m:=MX.n) (ty:=9) Tryz.func99 hbo (by kernel_rfl) rfl λs sep w hs hm h1=>Tryz.strings_Split s sep MX.n w hs hm h1
noncomputable def zK9:JE->JF:=zL3
theorem zOA:zB4 Tryz.prog G0 95 zK9:=by
  have hbo:Tryz.f95.body.isSome=true:=by kernel_rfl
  obtain⟨body,hbo⟩:=Option.isSome_iff_exists.1 hbo;exact zaH Tryz.func95 hbo (by kernel_rfl) (λi hi w=>Tryz.strconv_Itoa_small i hi w) zXQ
noncomputable def zLa:JE->JF:=zXN
theorem zOB:zB4 Tryz.prog G0 98 zLa:=by
  have hbo:Tryz.f98.body.isSome=true:=by kernel_rfl
  obtain⟨body,hbo⟩:=Option.isSome_iff_exists.1 hbo;exact zaK Tryz.func98 hbo (by kernel_rfl) (λa c sep w=>Tryz.strings_Join_none a c sep w) λbk o c xs sep w h1 h2 h3 h4 h5=>Tryz.strings_Join bk o c xs sep w h1 h2 h3 h4 h5
noncomputable def t0:Tb Tryz.prog G0:=Tb.nil
end Go.Proofs.YtjfcepbllmdfcaaGreatDoor.record
