/- THE LAW'S BASE: the package variables that it reads, and what Go's library gives. No condition. -/
import Derived.Test.YtdeeimaahdgeaaaGreatDoorFxF
import Derived.Test.YtdeeimaahdgeaaaGreatDoorChecked
import Derived.WalkKit
import Derived.Lib.SmallJoins
import Derived.Test.YtdeeimaahdgeaaaGreatDoorShelf
import Derived.WalkKit
set_option linter.unusedVariables false
set_option linter.unusedSimpArgs false
set_option linter.unusedSectionVars false
namespace Go.Proofs.YtdeeimaahdgeaaaGreatDoor.spec
open Go.Sy
theorem own:ownKnob Tryz.prog.godebug=none:=by kernel_rfl
theorem mixed:Tryz.prog.follows .mixedOrders=true:=by kernel_rfl
noncomputable def zRC:List Int:=[0,1,28,2,29,14,24,3,30,22,20,15,25,17,4,8,31,27,13,23,21,19,16,7,26,12,18,6,11,5,10,9]
noncomputable def zNL:List AV:=[.int .u8 0,.int .u8 1,.int .u8 28,.int .u8 2,.int .u8 29,.int .u8 14,.int .u8 24,.int .u8 3,.int .u8 30,.int .u8 22,.int .u8 20,.int .u8 15,.int .u8 25,.int .u8 17,.int .u8 4,.int .u8 8,.int .u8 31,.int .u8 27,.int .u8 13,.int .u8 23,.int .u8 21,.int .u8 19,.int .u8 16,.int .u8 7,.int .u8 26,.int .u8 12,.int .u8 18,.int .u8 6,.int .u8 11,.int .u8 5,.int .u8 10,.int .u8 9]
noncomputable def zRD:List Int:=[0,1,56,2,57,49,28,3,61,58,42,50,38,29,17,4,62,47,59,36,45,43,51,22,53,39,33,30,24,18,12,5,63,55,48,27,60,41,37,16,46,35,44,21,52,32,23,11,54,26,40,15,34,20,31,10,25,14,19,9,13,8,7,6]
noncomputable def zNM:List AV:=[.int .u8 0,.int .u8 1,.int .u8 56,.int .u8 2,.int .u8 57,.int .u8 49,.int .u8 28,.int .u8 3,.int .u8 61,.int .u8 58,.int .u8 42,.int .u8 50,.int .u8 38,.int .u8 29,.int .u8 17,.int .u8 4,.int .u8 62,.int .u8 47,.int .u8 59,.int .u8 36,.int .u8 45,.int .u8 43,.int .u8 51,.int .u8 22,.int .u8 53,.int .u8 39,.int .u8 33,.int .u8 30,.int .u8 24,.int .u8 18,.int .u8 12,.int .u8 5,.int .u8 63,.int .u8 55,.int .u8 48,.int .u8 27,.int .u8 60,.int .u8 41,.int .u8 37,.int .u8 16,.int .u8 46,.int .u8 35,.int .u8 44,.int .u8 21,.int .u8 52,.int .u8 32,.int .u8 23,.int .u8 11,.int .u8 54,.int .u8 26,.int .u8 40,.int .u8 15,.int .u8 34,.int .u8 20,.int .u8 31,.int .u8 10,.int .u8 25,.int .u8 14,.int .u8 19,.int .u8 9,.int .u8 13,.int .u8 8,.int .u8 7,.int .u8 6]
noncomputable def zRE:List Int:=[1,10,100,1000,10000,100000,1000000,10000000,100000000,1000000000,10000000000,100000000000,1000000000000,10000000000000,100000000000000,1000000000000000,10000000000000000,100000000000000000,1000000000000000000,10000000000000000000]
noncomputable def zKE:List AV:=[.int .u64 1,.int .u64 10,.int .u64 100,.int .u64 1000,.int .u64 10000,.int .u64 100000,.int .u64 1000000,.int .u64 10000000,.int .u64 100000000,.int .u64 1000000000,.int .u64 10000000000,.int .u64 100000000000,.int .u64 1000000000000,.int .u64 10000000000000,.int .u64 100000000000000,.int .u64 1000000000000000,.int .u64 10000000000000000,.int .u64 100000000000000000,.int .u64 1000000000000000000,.int .u64 10000000000000000000]
class MX where
 n:Int
variable [MX]
noncomputable def globs:Cx:=⟨fun n=>match Nat.beq n 1 with
 | true=>some (.qf (.agg [.int .i64 MX.n]) 0)
 | false=>match Nat.beq n 4 with
 | true=>some (.qf (.agg zNL) 0)
 | false=>match Nat.beq n 5 with
 | true=>some (.qf (.agg zNM) 0)
 | false=>match Nat.beq n 0 with
 | true=>some (.qf (.agg zKE) 0)
 | false=>match Nat.beq n 7 with
 | true=>some (.qf (.agg [.iface 196 (.qf (.agg [.str [118,97,108,117,101,32,111,117,116,32,111,102,32,114,97,110,103,101]]) 0)]) 0)
 | false=>match Nat.beq n 6 with
 | true=>some (.qf (.agg [.iface 196 (.qf (.agg [.str [105,110,118,97,108,105,100,32,115,121,110,116,97,120]]) 0)]) 0)
 | false=>none,fun _ _=>none⟩
theorem zUg:zBm Tryz.prog globs:=fun _ _ _ h=>by cases h
theorem zUh:zPG globs:=fun g v h=>by
 simp only [globs] at h;split at h
 ·cases h;kernel_rfl
 split at h
 ·cases h;kernel_rfl
 split at h
 ·cases h;kernel_rfl
 split at h
 ·cases h;kernel_rfl
 split at h
 ·cases h;kernel_rfl
 split at h
 ·cases h;kernel_rfl
 cases h
theorem zY7 {l:List (String×DataW Unit)} {W:World} {σ:Nat->Value} (hL:laidMet Tryz.prog l W) (hm:("math/bits.deBruijn32tab",Lib.tabData .u8 zRC)∈l):VR (Env.still W σ) W (.qf (.agg zNL) 0) (.pointer (some ⟨4,0,none⟩))/\zFn W 4 (.qf (.agg zNL) 0):=by
 have e:zNL=zRC.map fun z=>.int .u8 z:=by kernel_rfl
 rw [e];exact zOT hL hm (by kernel_rfl) (t:=177) (e:=5) (len:=32) (by kernel_rfl) (by kernel_rfl) (by kernel_rfl) (by kernel_rfl) (by kernel_rfl) (by kernel_rfl)
theorem zY8 {l:List (String×DataW Unit)} {W:World} {σ:Nat->Value} (hL:laidMet Tryz.prog l W) (hm:("math/bits.deBruijn64tab",Lib.tabData .u8 zRD)∈l):VR (Env.still W σ) W (.qf (.agg zNM) 0) (.pointer (some ⟨5,0,none⟩))/\zFn W 5 (.qf (.agg zNM) 0):=by
 have e:zNM=zRD.map fun z=>.int .u8 z:=by kernel_rfl
 rw [e];exact zOT hL hm (by kernel_rfl) (t:=178) (e:=5) (len:=64) (by kernel_rfl) (by kernel_rfl) (by kernel_rfl) (by kernel_rfl) (by kernel_rfl) (by kernel_rfl)
theorem zY9 {l:List (String×DataW Unit)} {W:World} {σ:Nat->Value} (hL:laidMet Tryz.prog l W) (hm:("internal/strconv.uint64pow10",Lib.tabData .u64 zRE)∈l):VR (Env.still W σ) W (.qf (.agg zKE) 0) (.pointer (some ⟨0,0,none⟩))/\zFn W 0 (.qf (.agg zKE) 0):=by
 have e:zKE=zRE.map fun z=>.int .u64 z:=by kernel_rfl
 rw [e];exact zOT hL hm (by kernel_rfl) (t:=160) (e:=130) (len:=20) (by kernel_rfl) (by kernel_rfl) (by kernel_rfl) (by kernel_rfl) (by kernel_rfl) (by kernel_rfl)
theorem star : "*" ++ "errors.errorString" = "*errors.errorString":=by decide
theorem zVq (u:TypeId) (h:Tryz.prog.typeName? 3 u=some "*errors.errorString"):u=196:=
 typeName_ptr_named (nm := "errors.errorString") (by rw [star];kernel_rfl) (by kernel_rfl) (by decide) u (by rw [star];exact h)
theorem zZa {l:List (String×DataW Unit)} {W:World} {σ:Nat->Value} (hL:laidMet Tryz.prog l W) (hm:("strconv.ErrRange",(.iface "*errors.errorString" (.ptr (.agg [.lit (.string [118,97,108,117,101,32,111,117,116,32,111,102,32,114,97,110,103,101])])):DataW Unit))∈l):
  VR (Env.still W σ) W (.qf (.agg [.iface 196 (.qf (.agg [.str [118,97,108,117,101,32,111,117,116,32,111,102,32,114,97,110,103,101]]) 0)]) 0) (.pointer (some ⟨7,0,none⟩))/\zFn W 7 (.qf (.agg [.iface 196 (.qf (.agg [.str [118,97,108,117,101,32,111,117,116,32,111,102,32,114,97,110,103,101]]) 0)]) 0):=
 zQL hL hm (by kernel_rfl) (by kernel_rfl) Tryz.underlying111 zVq Tryz.underlying196 Tryz.underlying198 rfl rfl Tryz.underlying9 (by kernel_rfl) (by kernel_rfl)
theorem zZb {l:List (String×DataW Unit)} {W:World} {σ:Nat->Value} (hL:laidMet Tryz.prog l W) (hm:("strconv.ErrSyntax",(.iface "*errors.errorString" (.ptr (.agg [.lit (.string [105,110,118,97,108,105,100,32,115,121,110,116,97,120])])):DataW Unit))∈l):
  VR (Env.still W σ) W (.qf (.agg [.iface 196 (.qf (.agg [.str [105,110,118,97,108,105,100,32,115,121,110,116,97,120]]) 0)]) 0) (.pointer (some ⟨6,0,none⟩))/\zFn W 6 (.qf (.agg [.iface 196 (.qf (.agg [.str [105,110,118,97,108,105,100,32,115,121,110,116,97,120]]) 0)]) 0):=
 zQL hL hm (by kernel_rfl) (by kernel_rfl) Tryz.underlying111 zVq Tryz.underlying196 Tryz.underlying198 rfl rfl Tryz.underlying9 (by kernel_rfl) (by kernel_rfl)
theorem zZc {W:World} {σ:Nat->Value} (hb:∃c t e,W.heap[1]?=some (.cells c t e)/\c.size=1) (hm:W.cell? ⟨1,0,none⟩=some (.int .i64 MX.n)) (hh:has .i64 MX.n):VR (Env.still W σ) W (.qf (.agg [.int .i64 MX.n]) 0) (.pointer (some ⟨1,0,none⟩))/\zFn W 1 (.qf (.agg [.int .i64 MX.n]) 0):=by
 obtain ⟨c,t,e,h1,h2⟩:=hb;refine ⟨.qf _ 0 1 0 (.agg #[.int .i64 MX.n]) rfl (Array.getElem?_eq_some_iff.1 h1).1 ?_ fun j cc hj=>?_,fun cs n hq=>?_⟩
 ·exact VR.qR (.cons (.int _ _ hh) .nil) fun v hv=>by rw [Qc.1 hv];rfl
 ·have hj0:j=0:=by
   have:=(Array.getElem?_eq_some_iff.1 hj).1;simp [Value.cells] at this;omega
  subst hj0;have hc:cc=.int .i64 MX.n:=by simpa [Value.cells] using hj.symm
  rw [hc];exact hm
 ·cases hq;exact ⟨c,t,e,h1,h2⟩
theorem zWo {l:List (String×DataW Unit)} {W:World} {σ:Nat->Value} (hL:laidMet Tryz.prog l W) (hb1:∃c t e,W.heap[1]?=some (.cells c t e)/\c.size=1) (hm1:W.cell? ⟨1,0,none⟩=some (.int .i64 MX.n)) (hh1:has .i64 MX.n) (h4:("math/bits.deBruijn32tab",Lib.tabData .u8 zRC)∈l) (h5:("math/bits.deBruijn64tab",Lib.tabData .u8 zRD)∈l) (h0:("internal/strconv.uint64pow10",Lib.tabData .u64 zRE)∈l) (h7:("strconv.ErrRange",(.iface "*errors.errorString" (.ptr (.agg [.lit (.string [118,97,108,117,101,32,111,117,116,32,111,102,32,114,97,110,103,101])])):DataW Unit))∈l) (h6:("strconv.ErrSyntax",(.iface "*errors.errorString" (.ptr (.agg [.lit (.string [105,110,118,97,108,105,100,32,115,121,110,116,97,120])])):DataW Unit))∈l):GR globs (Env.still W σ) W:=fun g v h=>by
 simp only [globs] at h;split at h
 ·rename_i hb;cases h;rw [Nat.eq_of_beq_eq_true hb];exact zZc hb1 hm1 hh1
 split at h
 ·rename_i hb;cases h;rw [Nat.eq_of_beq_eq_true hb];exact zY7 hL h4
 split at h
 ·rename_i hb;cases h;rw [Nat.eq_of_beq_eq_true hb];exact zY8 hL h5
 split at h
 ·rename_i hb;cases h;rw [Nat.eq_of_beq_eq_true hb];exact zY9 hL h0
 split at h
 ·rename_i hb;cases h;rw [Nat.eq_of_beq_eq_true hb];exact zZa hL h7
 split at h
 ·rename_i hb;cases h;rw [Nat.eq_of_beq_eq_true hb];exact zZb hL h6
 cases h
end Go.Proofs.YtdeeimaahdgeaaaGreatDoor.spec
namespace Go.Proofs.YtdeeimaahdgeaaaGreatDoor.spec
open Go Go.Sy Go.RowKit
variable [MX]
noncomputable def G0:Cx:=globs
theorem zSp (k:IntKind) (zs:List Int):PP (.qf (.agg (zs.map fun z=>.int k z)) 0):=.qf _ _ (.agg _ fun x hx=>by
 obtain ⟨z,_,rfl⟩:=Qo.1 hx;exact .int _ _)
theorem zTw (t:Nat) (s:List Nat):PP (.qf (.agg [.iface t (.qf (.agg [.str s]) 0)]) 0):=.qf _ _ (.agg _ fun x hx=>by
 rw [Qc.1 hx];exact .iface _ _ (.qf _ _ (.agg _ fun y hy=>by rw [Qc.1 hy];exact .str _)))
theorem zXR:zNL=zRC.map fun z=>.int .u8 z:=by kernel_rfl
theorem zXS:zNM=zRD.map fun z=>.int .u8 z:=by kernel_rfl
theorem zXT:zKE=zRE.map fun z=>.int .u64 z:=by kernel_rfl
theorem zWV:GPP G0:=fun g v h=>by
 have h:globs.wJ g=some v:=h;simp only [globs] at h;split at h
 ·cases h;exact .qf _ _ (.agg _ fun x hx=>by rw [Qc.1 hx];exact .int _ _)
 split at h
 ·cases h;rw [zXR];exact zSp _ _
 split at h
 ·cases h;rw [zXS];exact zSp _ _
 split at h
 ·cases h;rw [zXT];exact zSp _ _
 split at h
 ·cases h;exact zTw _ _
 split at h
 ·cases h;exact zTw _ _
 cases h
theorem zXU:zBm Tryz.prog G0:=zUg
theorem mix:Tryz.prog.follows .mixedOrders=true:=mixed
theorem zZd:zKE=Lib.pow10Tab.map fun z=>.int .u64 z:=by kernel_rfl
noncomputable def zHG:List AV->Option AV:=fmtG
theorem zKF:zC6 Tryz.prog G0 31 zHG:=by
 have hbo:Tryz.f31.body.isSome=true:=by kernel_rfl
 obtain ⟨body,hbo⟩:=Option.isSome_iff_exists.1 hbo;refine zXP (g:=0) Tryz.func31 hbo (by kernel_rfl) (by kernel_rfl) ?_ fun n h0 h1 w ht=>Tryz.strconv_FormatInt_10 n h0 h1 w ht
 show some (AV.qf (.agg zKE) 0)=_
 rw [zZd]
noncomputable def zHH:List AV->Option AV:=idxG
theorem zKG:zC6 Tryz.prog G0 52 zHH:=by
 have hbo:Tryz.f52.body.isSome=true:=by kernel_rfl
 obtain ⟨body,hbo⟩:=Option.isSome_iff_exists.1 hbo;exact zXO Tryz.func52 hbo (by kernel_rfl) fun s c w=>Tryz.strings_IndexByte s c w
noncomputable def zDx:List AV->Option AV:=zPW 188 (.iface 196 (.qf (.agg [.str [105,110,118,97,108,105,100,32,115,121,110,116,97,120]]) 0)) (.iface 196 (.qf (.agg [.str [118,97,108,117,101,32,111,117,116,32,111,102,32,114,97,110,103,101]]) 0))
theorem zK0:zC6 Tryz.prog G0 167 zDx:=by
 have hbo:Tryz.f167.body.isSome=true:=by kernel_rfl
 obtain ⟨body,hbo⟩:=Option.isSome_iff_exists.1 hbo;refine zWm (gs:=6) (gr:=7) (ty:=194) Tryz.func167 hbo (by kernel_rfl) zWV rfl rfl (fun s hmax v h w=>(Tryz.strconv_ParseInt_10_at64_ok s hmax v h w).mono fun e w' h=>⟨h.1,?_⟩) (fun s hlim h h' ev w hv hev=>Any.strconv_ParseInt_10_at64_syntax Tryz.laysC174 s hlim (by
  revert h h'
  cases Lib.parseIntB 64 s.data.toList with
  | ok v=>exact fun h _=>absurd rfl (h v)
  | range=>exact fun _ h=>absurd rfl h
  | _=>exact fun _ _=>rfl) ev w hv hev) fun s hlim h ev w hv hev=>Tryz.strconv_ParseInt_10_at64_range s hlim h ev w hv hev
 rcases h.2 with rfl | ⟨t,rfl⟩
 ·exact Below.refl _ _
 ·exact Lib.bytesWorld_below _ _ _
noncomputable def zLl:List AV->Option AV:=cutG
theorem zNN:zC6 Tryz.prog G0 82 zLl:=by
  have hbo:Tryz.f82.body.isSome=true:=by kernel_rfl
  obtain ⟨body,hbo⟩:=Option.isSome_iff_exists.1 hbo;exact zXQ (g:=1) (m:=MX.n) Tryz.func82 hbo (by kernel_rfl) rfl fun s sep w hs hm=>Tryz.strings_Cut s sep MX.n w hs hm
noncomputable def zJP:List AV->Option AV:=zSm
theorem zMz:zC6 Tryz.prog G0 23 zJP:=by
  have hbo:Tryz.f23.body.isSome=true:=by kernel_rfl
  obtain ⟨body,hbo⟩:=Option.isSome_iff_exists.1 hbo;exact zVp (g:=1) (m:=MX.n) (ty:=9) Tryz.func23 hbo (by kernel_rfl) rfl fun s sep w hs hm h1=>Tryz.strings_Split s sep MX.n w hs hm h1
noncomputable def zO4:List AV->Option AV:=zOi
theorem zM1:zC6 Tryz.prog G0 30 zO4:=by
  have hbo:Tryz.f30.body.isSome=true:=by kernel_rfl
  obtain ⟨body,hbo⟩:=Option.isSome_iff_exists.1 hbo;exact zWl Tryz.func30 hbo (by kernel_rfl) (fun i hi w=>Tryz.strconv_Itoa_small i hi w) zUh
noncomputable def zO5:List AV->Option AV:=zUe
theorem zM2:zC6 Tryz.prog G0 34 zO5:=by
  have hbo:Tryz.f34.body.isSome=true:=by kernel_rfl
  obtain ⟨body,hbo⟩:=Option.isSome_iff_exists.1 hbo;exact zWn Tryz.func34 hbo (by kernel_rfl) (fun a c sep w=>Tryz.strings_Join_none a c sep w) fun bk o c xs sep w h1 h2 h3 h4 h5=>Tryz.strings_Join bk o c xs sep w h1 h2 h3 h4 h5
noncomputable def t0:Tb Tryz.prog G0:=Tb.nil
end Go.Proofs.YtdeeimaahdgeaaaGreatDoor.spec
