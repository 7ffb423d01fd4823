/- THE LAW'S BASE: the package variables that it reads, and what Go's library gives. No condition. -/
import Derived.Test.YtdeeimaahdgeaaaGreatDoorFxF
import Derived.Test.YtdeeimaahdgeaaaGreatDoorChecked
import Derived.WalkKit
import Derived.Lib.SmallJoins
import Derived.Test.YtdeeimaahdgeaaaGreatDoorShelf
import Derived.WalkKit
set_option linter.unusedVariables false
set_option linter.unusedSimpArgs false
set_option linter.unusedSectionVars false
namespace Go.Proofs.YtdeeimaahdgeaaaGreatDoor.spec
open Go.Sy
theorem own:ownKnob Tryz.prog.godebug=none:=by kernel_rfl
theorem mixed:Tryz.prog.follows .mixedOrders=true:=by kernel_rfl
noncomputable def zPr:List Int:=[0,1,28,2,29,14,24,3,30,22,20,15,25,17,4,8,31,27,13,23,21,19,16,7,26,12,18,6,11,5,10,9]
noncomputable def zLX:List AV:=[.int .u8 0,.int .u8 1,.int .u8 28,.int .u8 2,.int .u8 29,.int .u8 14,.int .u8 24,.int .u8 3,.int .u8 30,.int .u8 22,.int .u8 20,.int .u8 15,.int .u8 25,.int .u8 17,.int .u8 4,.int .u8 8,.int .u8 31,.int .u8 27,.int .u8 13,.int .u8 23,.int .u8 21,.int .u8 19,.int .u8 16,.int .u8 7,.int .u8 26,.int .u8 12,.int .u8 18,.int .u8 6,.int .u8 11,.int .u8 5,.int .u8 10,.int .u8 9]
noncomputable def zPs:List Int:=[0,1,56,2,57,49,28,3,61,58,42,50,38,29,17,4,62,47,59,36,45,43,51,22,53,39,33,30,24,18,12,5,63,55,48,27,60,41,37,16,46,35,44,21,52,32,23,11,54,26,40,15,34,20,31,10,25,14,19,9,13,8,7,6]
noncomputable def zLY:List AV:=[.int .u8 0,.int .u8 1,.int .u8 56,.int .u8 2,.int .u8 57,.int .u8 49,.int .u8 28,.int .u8 3,.int .u8 61,.int .u8 58,.int .u8 42,.int .u8 50,.int .u8 38,.int .u8 29,.int .u8 17,.int .u8 4,.int .u8 62,.int .u8 47,.int .u8 59,.int .u8 36,.int .u8 45,.int .u8 43,.int .u8 51,.int .u8 22,.int .u8 53,.int .u8 39,.int .u8 33,.int .u8 30,.int .u8 24,.int .u8 18,.int .u8 12,.int .u8 5,.int .u8 63,.int .u8 55,.int .u8 48,.int .u8 27,.int .u8 60,.int .u8 41,.int .u8 37,.int .u8 16,.int .u8 46,.int .u8 35,.int .u8 44,.int .u8 21,.int .u8 52,.int .u8 32,.int .u8 23,.int .u8 11,.int .u8 54,.int .u8 26,.int .u8 40,.int .u8 15,.int .u8 34,.int .u8 20,.int .u8 31,.int .u8 10,.int .u8 25,.int .u8 14,.int .u8 19,.int .u8 9,.int .u8 13,.int .u8 8,.int .u8 7,.int .u8 6]
noncomputable def zPt:List Int:=[1,10,100,1000,10000,100000,1000000,10000000,100000000,1000000000,10000000000,100000000000,1000000000000,10000000000000,100000000000000,1000000000000000,10000000000000000,100000000000000000,1000000000000000000,10000000000000000000]
noncomputable def zI6:List AV:=[.int .u64 1,.int .u64 10,.int .u64 100,.int .u64 1000,.int .u64 10000,.int .u64 100000,.int .u64 1000000,.int .u64 10000000,.int .u64 100000000,.int .u64 1000000000,.int .u64 10000000000,.int .u64 100000000000,.int .u64 1000000000000,.int .u64 10000000000000,.int .u64 100000000000000,.int .u64 1000000000000000,.int .u64 10000000000000000,.int .u64 100000000000000000,.int .u64 1000000000000000000,.int .u64 10000000000000000000]
class MX where
 n:Int
variable [MX]
noncomputable def globs:Cx:=⟨fun n=>match Nat.beq n 1 with
 | true=>some (.qe (.agg [.int .i64 MX.n]) 0)
 | false=>match Nat.beq n 4 with
 | true=>some (.qe (.agg zLX) 0)
 | false=>match Nat.beq n 5 with
 | true=>some (.qe (.agg zLY) 0)
 | false=>match Nat.beq n 0 with
 | true=>some (.qe (.agg zI6) 0)
 | false=>match Nat.beq n 7 with
 | true=>some (.qe (.agg [.iface 196 (.qe (.agg [.str [118,97,108,117,101,32,111,117,116,32,111,102,32,114,97,110,103,101]]) 0)]) 0)
 | false=>match Nat.beq n 6 with
 | true=>some (.qe (.agg [.iface 196 (.qe (.agg [.str [105,110,118,97,108,105,100,32,115,121,110,116,97,120]]) 0)]) 0)
 | false=>none,fun _ _=>none⟩
theorem zR7:zBe Tryz.prog globs:=fun _ _ _ h=>by cases h
theorem zR8:zNH globs:=fun g v h=>by
 simp only [globs] at h;split at h
 ·cases h;kernel_rfl
 split at h
 ·cases h;kernel_rfl
 split at h
 ·cases h;kernel_rfl
 split at h
 ·cases h;kernel_rfl
 split at h
 ·cases h;kernel_rfl
 split at h
 ·cases h;kernel_rfl
 cases h
theorem zWQ {l:List (String×DataW Unit)} {W:World} {σ:Nat->Value} (hL:laidMet Tryz.prog l W) (hm:("math/bits.deBruijn32tab",Lib.tabData .u8 zPr)∈l):VR (Env.still W σ) W (.qe (.agg zLX) 0) (.pointer (some ⟨4,0,none⟩))/\zEE W 4 (.qe (.agg zLX) 0):=by
 have e:zLX=zPr.map fun z=>.int .u8 z:=by kernel_rfl
 rw [e];exact zM2 hL hm (by kernel_rfl) (t:=177) (e:=5) (len:=32) (by kernel_rfl) (by kernel_rfl) (by kernel_rfl) (by kernel_rfl) (by kernel_rfl) (by kernel_rfl)
theorem zWR {l:List (String×DataW Unit)} {W:World} {σ:Nat->Value} (hL:laidMet Tryz.prog l W) (hm:("math/bits.deBruijn64tab",Lib.tabData .u8 zPs)∈l):VR (Env.still W σ) W (.qe (.agg zLY) 0) (.pointer (some ⟨5,0,none⟩))/\zEE W 5 (.qe (.agg zLY) 0):=by
 have e:zLY=zPs.map fun z=>.int .u8 z:=by kernel_rfl
 rw [e];exact zM2 hL hm (by kernel_rfl) (t:=178) (e:=5) (len:=64) (by kernel_rfl) (by kernel_rfl) (by kernel_rfl) (by kernel_rfl) (by kernel_rfl) (by kernel_rfl)
theorem zWS {l:List (String×DataW Unit)} {W:World} {σ:Nat->Value} (hL:laidMet Tryz.prog l W) (hm:("internal/strconv.uint64pow10",Lib.tabData .u64 zPt)∈l):VR (Env.still W σ) W (.qe (.agg zI6) 0) (.pointer (some ⟨0,0,none⟩))/\zEE W 0 (.qe (.agg zI6) 0):=by
 have e:zI6=zPt.map fun z=>.int .u64 z:=by kernel_rfl
 rw [e];exact zM2 hL hm (by kernel_rfl) (t:=160) (e:=130) (len:=20) (by kernel_rfl) (by kernel_rfl) (by kernel_rfl) (by kernel_rfl) (by kernel_rfl) (by kernel_rfl)
theorem star : "*" ++ "errors.errorString" = "*errors.errorString":=by decide
theorem zTb (u:TypeId) (h:Tryz.prog.typeName? 3 u=some "*errors.errorString"):u=196:=
 typeName_ptr_named (nm := "errors.errorString") (by rw [star];kernel_rfl) (by kernel_rfl) (by decide) u (by rw [star];exact h)
theorem zWT {l:List (String×DataW Unit)} {W:World} {σ:Nat->Value} (hL:laidMet Tryz.prog l W) (hm:("strconv.ErrRange",(.iface "*errors.errorString" (.ptr (.agg [.lit (.string [118,97,108,117,101,32,111,117,116,32,111,102,32,114,97,110,103,101])])):DataW Unit))∈l):
  VR (Env.still W σ) W (.qe (.agg [.iface 196 (.qe (.agg [.str [118,97,108,117,101,32,111,117,116,32,111,102,32,114,97,110,103,101]]) 0)]) 0) (.pointer (some ⟨7,0,none⟩))/\zEE W 7 (.qe (.agg [.iface 196 (.qe (.agg [.str [118,97,108,117,101,32,111,117,116,32,111,102,32,114,97,110,103,101]]) 0)]) 0):=
 zOE hL hm (by kernel_rfl) (by kernel_rfl) Tryz.underlying111 zTb Tryz.underlying196 Tryz.underlying198 rfl rfl Tryz.underlying9 (by kernel_rfl) (by kernel_rfl)
theorem zWU {l:List (String×DataW Unit)} {W:World} {σ:Nat->Value} (hL:laidMet Tryz.prog l W) (hm:("strconv.ErrSyntax",(.iface "*errors.errorString" (.ptr (.agg [.lit (.string [105,110,118,97,108,105,100,32,115,121,110,116,97,120])])):DataW Unit))∈l):
  VR (Env.still W σ) W (.qe (.agg [.iface 196 (.qe (.agg [.str [105,110,118,97,108,105,100,32,115,121,110,116,97,120]]) 0)]) 0) (.pointer (some ⟨6,0,none⟩))/\zEE W 6 (.qe (.agg [.iface 196 (.qe (.agg [.str [105,110,118,97,108,105,100,32,115,121,110,116,97,120]]) 0)]) 0):=
 zOE hL hm (by kernel_rfl) (by kernel_rfl) Tryz.underlying111 zTb Tryz.underlying196 Tryz.underlying198 rfl rfl Tryz.underlying9 (by kernel_rfl) (by kernel_rfl)
theorem zWV {W:World} {σ:Nat->Value} (hb:∃c t e,W.heap[1]?=some (.cells c t e)/\c.size=1) (hm:W.cell? ⟨1,0,none⟩=some (.int .i64 MX.n)) (hh:has .i64 MX.n):VR (Env.still W σ) W (.qe (.agg [.int .i64 MX.n]) 0) (.pointer (some ⟨1,0,none⟩))/\zEE W 1 (.qe (.agg [.int .i64 MX.n]) 0):=by
 obtain ⟨c,t,e,h1,h2⟩:=hb;refine ⟨.qe _ 0 1 0 (.agg #[.int .i64 MX.n]) rfl (Array.getElem?_eq_some_iff.1 h1).1 ?_ fun j cc hj=>?_,fun cs n hq=>?_⟩
 ·exact VR.qM (.cons (.int _ _ hh) .nil) fun v hv=>by rw [Qc.1 hv];rfl
 ·have hj0:j=0:=by
   have:=(Array.getElem?_eq_some_iff.1 hj).1;simp [Value.cells] at this;omega
  subst hj0;have hc:cc=.int .i64 MX.n:=by simpa [Value.cells] using hj.symm
  rw [hc];exact hm
 ·cases hq;exact ⟨c,t,e,h1,h2⟩
theorem zUb {l:List (String×DataW Unit)} {W:World} {σ:Nat->Value} (hL:laidMet Tryz.prog l W) (hb1:∃c t e,W.heap[1]?=some (.cells c t e)/\c.size=1) (hm1:W.cell? ⟨1,0,none⟩=some (.int .i64 MX.n)) (hh1:has .i64 MX.n) (h4:("math/bits.deBruijn32tab",Lib.tabData .u8 zPr)∈l) (h5:("math/bits.deBruijn64tab",Lib.tabData .u8 zPs)∈l) (h0:("internal/strconv.uint64pow10",Lib.tabData .u64 zPt)∈l) (h7:("strconv.ErrRange",(.iface "*errors.errorString" (.ptr (.agg [.lit (.string [118,97,108,117,101,32,111,117,116,32,111,102,32,114,97,110,103,101])])):DataW Unit))∈l) (h6:("strconv.ErrSyntax",(.iface "*errors.errorString" (.ptr (.agg [.lit (.string [105,110,118,97,108,105,100,32,115,121,110,116,97,120])])):DataW Unit))∈l):GR globs (Env.still W σ) W:=fun g v h=>by
 simp only [globs] at h;split at h
 ·rename_i hb;cases h;rw [Nat.eq_of_beq_eq_true hb];exact zWV hb1 hm1 hh1
 split at h
 ·rename_i hb;cases h;rw [Nat.eq_of_beq_eq_true hb];exact zWQ hL h4
 split at h
 ·rename_i hb;cases h;rw [Nat.eq_of_beq_eq_true hb];exact zWR hL h5
 split at h
 ·rename_i hb;cases h;rw [Nat.eq_of_beq_eq_true hb];exact zWS hL h0
 split at h
 ·rename_i hb;cases h;rw [Nat.eq_of_beq_eq_true hb];exact zWT hL h7
 split at h
 ·rename_i hb;cases h;rw [Nat.eq_of_beq_eq_true hb];exact zWU hL h6
 cases h
end Go.Proofs.YtdeeimaahdgeaaaGreatDoor.spec
namespace Go.Proofs.YtdeeimaahdgeaaaGreatDoor.spec
open Go Go.Sy Go.RowKit
variable [MX]
noncomputable def G0:Cx:=globs
theorem zQg (k:IntKind) (zs:List Int):PP (.qe (.agg (zs.map fun z=>.int k z)) 0):=.qe _ _ (.agg _ fun x hx=>by
 obtain ⟨z,_,rfl⟩:=Qf.1 hx;exact .int _ _)
theorem zRj (t:Nat) (s:List Nat):PP (.qe (.agg [.iface t (.qe (.agg [.str s]) 0)]) 0):=.qe _ _ (.agg _ fun x hx=>by
 rw [Qc.1 hx];exact .iface _ _ (.qe _ _ (.agg _ fun y hy=>by rw [Qc.1 hy];exact .str _)))
theorem zVy:zLX=zPr.map fun z=>.int .u8 z:=by kernel_rfl
theorem zVz:zLY=zPs.map fun z=>.int .u8 z:=by kernel_rfl
theorem zVA:zI6=zPt.map fun z=>.int .u64 z:=by kernel_rfl
theorem zUz:GPP G0:=fun g v h=>by
 have h:globs.wG g=some v:=h;simp only [globs] at h;split at h
 ·cases h;exact .qe _ _ (.agg _ fun x hx=>by rw [Qc.1 hx];exact .int _ _)
 split at h
 ·cases h;rw [zVy];exact zQg _ _
 split at h
 ·cases h;rw [zVz];exact zQg _ _
 split at h
 ·cases h;rw [zVA];exact zQg _ _
 split at h
 ·cases h;exact zRj _ _
 split at h
 ·cases h;exact zRj _ _
 cases h
theorem zVB:zBe Tryz.prog G0:=zR7
theorem mix:Tryz.prog.follows .mixedOrders=true:=mixed
theorem zWW:zI6=Lib.pow10Tab.map fun z=>.int .u64 z:=by kernel_rfl
noncomputable def zGy:List AV->Option AV:=fmtG
theorem zI7:zCO Tryz.prog G0 31 zGy:=by
 have hbo:Tryz.f31.body.isSome=true:=by kernel_rfl
 obtain ⟨body,hbo⟩:=Option.isSome_iff_exists.1 hbo;refine zVv (g:=0) Tryz.func31 hbo (by kernel_rfl) (by kernel_rfl) ?_ fun n h0 h1 w ht=>Tryz.strconv_FormatInt_10 n h0 h1 w ht
 show some (AV.qe (.agg zI6) 0)=_
 rw [zWW]
noncomputable def zGz:List AV->Option AV:=idxG
theorem zI8:zCO Tryz.prog G0 52 zGz:=by
 have hbo:Tryz.f52.body.isSome=true:=by kernel_rfl
 obtain ⟨body,hbo⟩:=Option.isSome_iff_exists.1 hbo;exact zVu Tryz.func52 hbo (by kernel_rfl) fun s c w=>Tryz.strings_IndexByte s c w
noncomputable def zC7:List AV->Option AV:=zNX 188 (.iface 196 (.qe (.agg [.str [105,110,118,97,108,105,100,32,115,121,110,116,97,120]]) 0)) (.iface 196 (.qe (.agg [.str [118,97,108,117,101,32,111,117,116,32,111,102,32,114,97,110,103,101]]) 0))
theorem zJt:zCO Tryz.prog G0 167 zC7:=by
 have hbo:Tryz.f167.body.isSome=true:=by kernel_rfl
 obtain ⟨body,hbo⟩:=Option.isSome_iff_exists.1 hbo;refine zT9 (gs:=6) (gr:=7) (ty:=194) Tryz.func167 hbo (by kernel_rfl) zUz rfl rfl (fun s hmax v h w=>(Tryz.strconv_ParseInt_10_at64_ok s hmax v h w).mono fun e w' h=>⟨h.1,?_⟩) (fun s hlim h h' ev w hv hev=>Any.strconv_ParseInt_10_at64_syntax Tryz.laysC174 s hlim (by
  revert h h'
  cases Lib.parseIntB 64 s.data.toList with
  | ok v=>exact fun h _=>absurd rfl (h v)
  | range=>exact fun _ h=>absurd rfl h
  | _=>exact fun _ _=>rfl) ev w hv hev) fun s hlim h ev w hv hev=>Tryz.strconv_ParseInt_10_at64_range s hlim h ev w hv hev
 rcases h.2 with rfl | ⟨t,rfl⟩
 ·exact Below.refl _ _
 ·exact Lib.bytesWorld_below _ _ _
noncomputable def zNY:List AV->Option AV:=cutG
theorem zLZ:zCO Tryz.prog G0 82 zNY:=by
  have hbo:Tryz.f82.body.isSome=true:=by kernel_rfl
  obtain ⟨body,hbo⟩:=Option.isSome_iff_exists.1 hbo;exact zVw (g:=1) (m:=MX.n) Tryz.func82 hbo (by kernel_rfl) rfl fun s sep w hs hm=>Tryz.strings_Cut s sep MX.n w hs hm
noncomputable def zMB:List AV->Option AV:=zQd
theorem zKR:zCO Tryz.prog G0 23 zMB:=by
  have hbo:Tryz.f23.body.isSome=true:=by kernel_rfl
  obtain ⟨body,hbo⟩:=Option.isSome_iff_exists.1 hbo;exact zTa (g:=1) (m:=MX.n) (ty:=9) Tryz.func23 hbo (by kernel_rfl) rfl fun s sep w hs hm h1=>Tryz.strings_Split s sep MX.n w hs hm h1
noncomputable def zI9:List AV->Option AV:=zJN
theorem zLg:zCO Tryz.prog G0 30 zI9:=by
  have hbo:Tryz.f30.body.isSome=true:=by kernel_rfl
  obtain ⟨body,hbo⟩:=Option.isSome_iff_exists.1 hbo;exact zT8 Tryz.func30 hbo (by kernel_rfl) (fun i hi w=>Tryz.strconv_Itoa_small i hi w) zR8
noncomputable def zJa:List AV->Option AV:=zR4
theorem zLh:zCO Tryz.prog G0 34 zJa:=by
  have hbo:Tryz.f34.body.isSome=true:=by kernel_rfl
  obtain ⟨body,hbo⟩:=Option.isSome_iff_exists.1 hbo;exact zUa Tryz.func34 hbo (by kernel_rfl) (fun a c sep w=>Tryz.strings_Join_none a c sep w) fun bk o c xs sep w h1 h2 h3 h4 h5=>Tryz.strings_Join bk o c xs sep w h1 h2 h3 h4 h5
noncomputable def t0:Tb Tryz.prog G0:=Tb.nil
end Go.Proofs.YtdeeimaahdgeaaaGreatDoor.spec
