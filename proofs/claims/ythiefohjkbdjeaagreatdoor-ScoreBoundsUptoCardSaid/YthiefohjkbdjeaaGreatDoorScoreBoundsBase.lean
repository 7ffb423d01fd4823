/- THE LAW'S BASE: the package variables that it reads, and what Go's library gives. No condition. -/
import Derived.Test.YthiefohjkbdjeaaGreatDoorFxE
import Derived.Test.YthiefohjkbdjeaaGreatDoorChecked
import Derived.Test.YthiefohjkbdjeaaGreatDoorShelf
import Derived.WalkKit
import Derived.Lib.SmallJoins
import Derived.WalkKit
set_option linter.unusedVariables false
set_option linter.unusedSimpArgs false
namespace Go.Proofs.YthiefohjkbdjeaaGreatDoor.scoreBounds
open Go.Sy
theorem own:ownKnob Tryz.prog.godebug=none:=by kernel_rfl
theorem mixed:Tryz.prog.follows .mixedOrders=true:=by kernel_rfl
noncomputable def ints4:List Int:=[0,1,28,2,29,14,24,3,30,22,20,15,25,17,4,8,31,27,13,23,21,19,16,7,26,12,18,6,11,5,10,9]
noncomputable def cells4:List AV:=[.int .u8 0,.int .u8 1,.int .u8 28,.int .u8 2,.int .u8 29,.int .u8 14,.int .u8 24,.int .u8 3,.int .u8 30,.int .u8 22,.int .u8 20,.int .u8 15,.int .u8 25,.int .u8 17,.int .u8 4,.int .u8 8,.int .u8 31,.int .u8 27,.int .u8 13,.int .u8 23,.int .u8 21,.int .u8 19,.int .u8 16,.int .u8 7,.int .u8 26,.int .u8 12,.int .u8 18,.int .u8 6,.int .u8 11,.int .u8 5,.int .u8 10,.int .u8 9]
noncomputable def ints5:List Int:=[0,1,56,2,57,49,28,3,61,58,42,50,38,29,17,4,62,47,59,36,45,43,51,22,53,39,33,30,24,18,12,5,63,55,48,27,60,41,37,16,46,35,44,21,52,32,23,11,54,26,40,15,34,20,31,10,25,14,19,9,13,8,7,6]
noncomputable def cells5:List AV:=[.int .u8 0,.int .u8 1,.int .u8 56,.int .u8 2,.int .u8 57,.int .u8 49,.int .u8 28,.int .u8 3,.int .u8 61,.int .u8 58,.int .u8 42,.int .u8 50,.int .u8 38,.int .u8 29,.int .u8 17,.int .u8 4,.int .u8 62,.int .u8 47,.int .u8 59,.int .u8 36,.int .u8 45,.int .u8 43,.int .u8 51,.int .u8 22,.int .u8 53,.int .u8 39,.int .u8 33,.int .u8 30,.int .u8 24,.int .u8 18,.int .u8 12,.int .u8 5,.int .u8 63,.int .u8 55,.int .u8 48,.int .u8 27,.int .u8 60,.int .u8 41,.int .u8 37,.int .u8 16,.int .u8 46,.int .u8 35,.int .u8 44,.int .u8 21,.int .u8 52,.int .u8 32,.int .u8 23,.int .u8 11,.int .u8 54,.int .u8 26,.int .u8 40,.int .u8 15,.int .u8 34,.int .u8 20,.int .u8 31,.int .u8 10,.int .u8 25,.int .u8 14,.int .u8 19,.int .u8 9,.int .u8 13,.int .u8 8,.int .u8 7,.int .u8 6]
noncomputable def ints0:List Int:=[1,10,100,1000,10000,100000,1000000,10000000,100000000,1000000000,10000000000,100000000000,1000000000000,10000000000000,100000000000000,1000000000000000,10000000000000000,100000000000000000,1000000000000000000,10000000000000000000]
noncomputable def cells0:List AV:=[.int .u64 1,.int .u64 10,.int .u64 100,.int .u64 1000,.int .u64 10000,.int .u64 100000,.int .u64 1000000,.int .u64 10000000,.int .u64 100000000,.int .u64 1000000000,.int .u64 10000000000,.int .u64 100000000000,.int .u64 1000000000000,.int .u64 10000000000000,.int .u64 100000000000000,.int .u64 1000000000000000,.int .u64 10000000000000000,.int .u64 100000000000000000,.int .u64 1000000000000000000,.int .u64 10000000000000000000]
noncomputable def globs:Cx:=⟨fun n=>match Nat.beq n 4 with
 | true=>some (.eptr (.agg cells4) 0)
 | false=>match Nat.beq n 5 with
 | true=>some (.eptr (.agg cells5) 0)
 | false=>match Nat.beq n 0 with
 | true=>some (.eptr (.agg cells0) 0)
 | false=>match Nat.beq n 7 with
 | true=>some (.eptr (.agg [.iface 252 (.eptr (.agg [.str [118,97,108,117,101,32,111,117,116,32,111,102,32,114,97,110,103,101]]) 0)]) 0)
 | false=>match Nat.beq n 6 with
 | true=>some (.eptr (.agg [.iface 252 (.eptr (.agg [.str [105,110,118,97,108,105,100,32,115,121,110,116,97,120]]) 0)]) 0)
 | false=>none,fun _ _=>none⟩
theorem globs_meth:MethOK Tryz.prog globs:=fun _ _ _ h=>by cases h
theorem globs_pure:PureG globs:=fun g v h=>by
 simp only [globs] at h
 split at h
 ·cases h;kernel_rfl
 split at h
 ·cases h;kernel_rfl
 split at h
 ·cases h;kernel_rfl
 split at h
 ·cases h;kernel_rfl
 split at h
 ·cases h;kernel_rfl
 cases h
theorem glob4 {l:List (String×DataW Unit)} {W:World} {σ:Nat->Value} (hL:laidMet Tryz.prog l W) (hm:("math/bits.deBruijn32tab",Lib.tabData .u8 ints4)∈l):VR (Env.still W σ) W (.eptr (.agg cells4) 0) (.pointer (some ⟨4,0,none⟩))/\ExactB W 4 (.eptr (.agg cells4) 0):=by
 have e:cells4=ints4.map fun z=>.int .u8 z:=by kernel_rfl
 rw [e]
 exact glob_tab hL hm (by kernel_rfl) (t:=243) (e:=5) (len:=32) (by kernel_rfl) (by kernel_rfl) (by kernel_rfl) (by kernel_rfl) (by kernel_rfl) (by kernel_rfl)
theorem glob5 {l:List (String×DataW Unit)} {W:World} {σ:Nat->Value} (hL:laidMet Tryz.prog l W) (hm:("math/bits.deBruijn64tab",Lib.tabData .u8 ints5)∈l):VR (Env.still W σ) W (.eptr (.agg cells5) 0) (.pointer (some ⟨5,0,none⟩))/\ExactB W 5 (.eptr (.agg cells5) 0):=by
 have e:cells5=ints5.map fun z=>.int .u8 z:=by kernel_rfl
 rw [e]
 exact glob_tab hL hm (by kernel_rfl) (t:=244) (e:=5) (len:=64) (by kernel_rfl) (by kernel_rfl) (by kernel_rfl) (by kernel_rfl) (by kernel_rfl) (by kernel_rfl)
theorem glob0 {l:List (String×DataW Unit)} {W:World} {σ:Nat->Value} (hL:laidMet Tryz.prog l W) (hm:("internal/strconv.uint64pow10",Lib.tabData .u64 ints0)∈l):VR (Env.still W σ) W (.eptr (.agg cells0) 0) (.pointer (some ⟨0,0,none⟩))/\ExactB W 0 (.eptr (.agg cells0) 0):=by
 have e:cells0=ints0.map fun z=>.int .u64 z:=by kernel_rfl
 rw [e]
 exact glob_tab hL hm (by kernel_rfl) (t:=211) (e:=177) (len:=20) (by kernel_rfl) (by kernel_rfl) (by kernel_rfl) (by kernel_rfl) (by kernel_rfl) (by kernel_rfl)
theorem star : "*" ++ "errors.errorString" = "*errors.errorString":=by decide
theorem rowPtr (u:TypeId) (h:Tryz.prog.typeName? 3 u=some "*errors.errorString"):u=252:=
 typeName_ptr_named (nm := "errors.errorString") (by rw [star];kernel_rfl) (by kernel_rfl) (by decide) u (by rw [star];exact h)
theorem glob7 {l:List (String×DataW Unit)} {W:World} {σ:Nat->Value} (hL:laidMet Tryz.prog l W) (hm:("strconv.ErrRange",(.iface "*errors.errorString" (.ptr (.agg [.lit (.string [118,97,108,117,101,32,111,117,116,32,111,102,32,114,97,110,103,101])])):DataW Unit))∈l):
  VR (Env.still W σ) W (.eptr (.agg [.iface 252 (.eptr (.agg [.str [118,97,108,117,101,32,111,117,116,32,111,102,32,114,97,110,103,101]]) 0)]) 0) (.pointer (some ⟨7,0,none⟩))/\ExactB W 7 (.eptr (.agg [.iface 252 (.eptr (.agg [.str [118,97,108,117,101,32,111,117,116,32,111,102,32,114,97,110,103,101]]) 0)]) 0):=
 glob_sent hL hm (by kernel_rfl) (by kernel_rfl) Tryz.underlying149 rowPtr Tryz.underlying252 Tryz.underlying254 rfl rfl Tryz.underlying9 (by kernel_rfl) (by kernel_rfl)
theorem glob6 {l:List (String×DataW Unit)} {W:World} {σ:Nat->Value} (hL:laidMet Tryz.prog l W) (hm:("strconv.ErrSyntax",(.iface "*errors.errorString" (.ptr (.agg [.lit (.string [105,110,118,97,108,105,100,32,115,121,110,116,97,120])])):DataW Unit))∈l):
  VR (Env.still W σ) W (.eptr (.agg [.iface 252 (.eptr (.agg [.str [105,110,118,97,108,105,100,32,115,121,110,116,97,120]]) 0)]) 0) (.pointer (some ⟨6,0,none⟩))/\ExactB W 6 (.eptr (.agg [.iface 252 (.eptr (.agg [.str [105,110,118,97,108,105,100,32,115,121,110,116,97,120]]) 0)]) 0):=
 glob_sent hL hm (by kernel_rfl) (by kernel_rfl) Tryz.underlying149 rowPtr Tryz.underlying252 Tryz.underlying254 rfl rfl Tryz.underlying9 (by kernel_rfl) (by kernel_rfl)
theorem globs_ok {l:List (String×DataW Unit)} {W:World} {σ:Nat->Value} (hL:laidMet Tryz.prog l W) (h4:("math/bits.deBruijn32tab",Lib.tabData .u8 ints4)∈l) (h5:("math/bits.deBruijn64tab",Lib.tabData .u8 ints5)∈l) (h0:("internal/strconv.uint64pow10",Lib.tabData .u64 ints0)∈l) (h7:("strconv.ErrRange",(.iface "*errors.errorString" (.ptr (.agg [.lit (.string [118,97,108,117,101,32,111,117,116,32,111,102,32,114,97,110,103,101])])):DataW Unit))∈l) (h6:("strconv.ErrSyntax",(.iface "*errors.errorString" (.ptr (.agg [.lit (.string [105,110,118,97,108,105,100,32,115,121,110,116,97,120])])):DataW Unit))∈l):GR globs (Env.still W σ) W:=fun g v h=>by
 simp only [globs] at h
 split at h
 ·rename_i hb
  cases h
  rw [Nat.eq_of_beq_eq_true hb]
  exact glob4 hL h4
 split at h
 ·rename_i hb
  cases h
  rw [Nat.eq_of_beq_eq_true hb]
  exact glob5 hL h5
 split at h
 ·rename_i hb
  cases h
  rw [Nat.eq_of_beq_eq_true hb]
  exact glob0 hL h0
 split at h
 ·rename_i hb
  cases h
  rw [Nat.eq_of_beq_eq_true hb]
  exact glob7 hL h7
 split at h
 ·rename_i hb
  cases h
  rw [Nat.eq_of_beq_eq_true hb]
  exact glob6 hL h6
 cases h
end Go.Proofs.YthiefohjkbdjeaaGreatDoor.scoreBounds
namespace Go.Proofs.YthiefohjkbdjeaaGreatDoor.scoreBounds
open Go Go.Sy Go.RowKit
noncomputable def G0:Cx:=globs
theorem pp_tab (k:IntKind) (zs:List Int):PP (.eptr (.agg (zs.map fun z=>.int k z)) 0):=.eptr _ _ (.agg _ fun x hx=>by
 obtain ⟨z,_,rfl⟩:=List.mem_map.1 hx
 exact .int _ _)
theorem pp_sent (t:Nat) (s:List Nat):PP (.eptr (.agg [.iface t (.eptr (.agg [.str s]) 0)]) 0):=.eptr _ _ (.agg _ fun x hx=>by
 rw [List.mem_singleton.1 hx]
 exact .iface _ _ (.eptr _ _ (.agg _ fun y hy=>by rw [List.mem_singleton.1 hy];exact .str _)))
theorem tab4_eq:cells4=ints4.map fun z=>.int .u8 z:=by kernel_rfl
theorem tab5_eq:cells5=ints5.map fun z=>.int .u8 z:=by kernel_rfl
theorem tab0_eq:cells0=ints0.map fun z=>.int .u64 z:=by kernel_rfl
theorem G0_pp:GPP G0:=fun g v h=>by
 have h:globs.glob g=some v:=h
 simp only [globs] at h
 split at h
 ·cases h;rw [tab4_eq];exact pp_tab _ _
 split at h
 ·cases h;rw [tab5_eq];exact pp_tab _ _
 split at h
 ·cases h;rw [tab0_eq];exact pp_tab _ _
 split at h
 ·cases h;exact pp_sent _ _
 split at h
 ·cases h;exact pp_sent _ _
 cases h
theorem G0_meth:MethOK Tryz.prog G0:=globs_meth
theorem mix:Tryz.prog.follows .mixedOrders=true:=mixed
noncomputable def T0 (U:Nat):TbF:=[]
noncomputable def O0 (U:Nat):TbH:=[]
theorem tab0p:cells0=Lib.pow10Tab.map fun z=>.int .u64 z:=by kernel_rfl
theorem tab0 (U:Nat):TabOK Tryz.prog G0 (T0 U) (O0 U):=TabOK.nil
def useX:AV:=.agg [.str [120],.int .i64 0,.int .i64 1,.int .i64 5,.int .i64 0,.int .i64 0,.int .i64 0,.str [],.bool false]
def viewA:AV:=.agg [.str [97],.lst 2 [],.int .i64 10,.int .i64 0,.int .i64 0,.int .i64 0,.bool true,.lst 9 [useX]]
def viewB:AV:=.agg [.str [98],.lst 2 [],.int .i64 10,.int .i64 0,.int .i64 0,.int .i64 0,.bool true,.lst 9 []]
def useV:Array Value:=#[.string ⟨#[120]⟩,.int .i64 0,.int .i64 1,.int .i64 5,.int .i64 0,.int .i64 0,.int .i64 0,.string ⟨#[]⟩,.bool false]
def viewAV (b:Nat):Array Value:=#[.string ⟨#[97]⟩,.slice none 0 0,.int .i64 10,.int .i64 0,.int .i64 0,.int .i64 0,.bool true,.slice (some ⟨b,0,none⟩) 1 1]
def viewBV:Array Value:=#[.string ⟨#[98]⟩,.slice none 0 0,.int .i64 10,.int .i64 0,.int .i64 0,.int .i64 0,.bool true,.slice none 0 0]
set_option maxRecDepth 100000 in
theorem views_walk (w:World):Calls Tryz.prog 23 #[] w fun e w'=>e=.returned (.slice (some ⟨w.heap.size+1+1,0,none⟩) 2 2)/\w'=((w.alloc (.cells useV 50)).alloc (.cells (viewAV w.heap.size) 41)).alloc (.cells (viewAV w.heap.size++viewBV) 41):=by
 go_enter Tryz.func23,Tryz.ntmps23
 go_wp2
 go_ret
 exact ⟨rfl,rfl⟩
theorem pp_useX:PP useX:=.agg _ fun e he=>by
 simp only [List.mem_cons,List.not_mem_nil,or_false] at he
 rcases he with rfl | rfl | rfl | rfl | rfl | rfl | rfl | rfl | rfl <;> constructor
theorem pp_list {k:Nat} {l:List AV} (h:∀e∈l,PP e):PP (.lst k l):=.lst _ _ h
theorem pp_views:PP (.lst 8 [viewA,viewB]):=pp_list fun v hv=>by
 have h0:∀k,PP (.lst k []):=fun k=>pp_list fun e he=>by cases he
 simp only [List.mem_cons,List.not_mem_nil,or_false] at hv
 rcases hv with rfl | rfl
 ·refine .agg _ fun e he=>?_
  simp only [List.mem_cons,List.not_mem_nil,or_false] at he
  rcases he with rfl | rfl | rfl | rfl | rfl | rfl | rfl | rfl
  ·exact .str _
  ·exact h0 2
  ·exact .int _ _
  ·exact .int _ _
  ·exact .int _ _
  ·exact .int _ _
  ·exact .bool _
  ·exact pp_list fun e he=>by rw [List.mem_singleton.1 he];exact pp_useX
 ·refine .agg _ fun e he=>?_
  simp only [List.mem_cons,List.not_mem_nil,or_false] at he
  rcases he with rfl | rfl | rfl | rfl | rfl | rfl | rfl | rfl
  ·exact .str _
  ·exact h0 2
  ·exact .int _ _
  ·exact .int _ _
  ·exact .int _ _
  ·exact .int _ _
  ·exact .bool _
  ·exact h0 9
def ext_berthmasterlaw18_views:List AV->Option AV
 | []=>some (.lst 8 [viewA,viewB])
 | _=>none
theorem views_vr {E:Env} {w w':World} (h0:w'.heap[w.heap.size]? = some (.cells useV 50 (0,0))) (h2:w'.heap[w.heap.size+1+1]? = some (.cells (viewAV w.heap.size++viewBV) 41 (0,0))) (z0:E.Z w.heap.size) (z2:E.Z (w.heap.size+1+1)):VR E w' (.lst 8 [viewA,viewB]) (.slice (some ⟨w.heap.size+1+1,0,none⟩) 2 2):=by
 have i0:∀n:Int,-9223372036854775808<=n->n<=9223372036854775807->VR E w' (.int .i64 n) (.int .i64 n):=fun n a b=>.int _ _ ⟨a,b⟩
 have hu:VR E w' useX (.agg useV):=by
  refine VR.mk_agg (.cons (.str _ _ rfl (by decide)) (.cons (i0 _ (by decide) (by decide)) (.cons (i0 _ (by decide) (by decide)) (.cons (i0 _ (by decide) (by decide)) (.cons (i0 _ (by decide) (by decide)) (.cons (i0 _ (by decide) (by decide)) (.cons (i0 _ (by decide) (by decide)) (.cons (.str _ _ rfl (by decide)) (.cons (.bool _) .nil))))))))) fun v hv=>?_
  have:∀v∈useV.toList,v.oneCell'=true:=by decide
  exact this v hv
 have hus:VR E w' (.lst 9 [useX]) (.slice (some ⟨w.heap.size,0,none⟩) 1 1):=by
  refine .lst [useX] w.heap.size 0 1 9 (fun _=>.agg useV) z0 (by decide) (by decide) (fun i e he=>?_) (fun i e he=>?_) fun i hi=>⟨rfl,fun j c hj=>?_⟩
  ·match i,he with
   | 0,he=>cases he;rfl
   | i+1,he=>cases i <;> cases he
  ·match i,he with
   | 0,he=>cases he;exact hu
   | i+1,he=>cases i <;> cases he
  ·have:i=0:=by simp at hi;omega
   subst this
   have hj:useV[j]? = some c:=hj
   simp [World.cell?,h0,hj]
 have l0:∀k,VR E w' (.lst k []) (.slice none 0 0):=fun k=>.lst0 _ _ _ (by decide)
 have hA:VR E w' viewA (.agg (viewAV w.heap.size)):=by
  refine VR.mk_agg (.cons (.str _ _ rfl (by decide)) (.cons (l0 2) (.cons (i0 _ (by decide) (by decide)) (.cons (i0 _ (by decide) (by decide)) (.cons (i0 _ (by decide) (by decide)) (.cons (i0 _ (by decide) (by decide)) (.cons (.bool _) (.cons hus .nil)))))))) fun v hv=>?_
  simp only [viewAV,List.mem_cons,List.not_mem_nil,or_false] at hv
  rcases hv with rfl | rfl | rfl | rfl | rfl | rfl | rfl | rfl <;> rfl
 have hB:VR E w' viewB (.agg viewBV):=by
  refine VR.mk_agg (.cons (.str _ _ rfl (by decide)) (.cons (l0 2) (.cons (i0 _ (by decide) (by decide)) (.cons (i0 _ (by decide) (by decide)) (.cons (i0 _ (by decide) (by decide)) (.cons (i0 _ (by decide) (by decide)) (.cons (.bool _) (.cons (l0 9) .nil)))))))) fun v hv=>?_
  simp only [viewBV,List.mem_cons,List.not_mem_nil,or_false] at hv
  rcases hv with rfl | rfl | rfl | rfl | rfl | rfl | rfl | rfl <;> rfl
 refine .lst [viewA,viewB] (w.heap.size+1+1) 0 2 8 (fun i=>if i=0 then .agg (viewAV w.heap.size) else .agg viewBV) z2 (by decide) (by decide) (fun i e he=>?_) (fun i e he=>?_) fun i hi=>?_
 ·match i,he with
  | 0,he=>cases he;rfl
  | 1,he=>cases he;rfl
  | i+2,he=>cases i <;> cases he
 ·match i,he with
  | 0,he=>cases he;exact hA
  | 1,he=>cases he;exact hB
  | i+2,he=>cases i <;> cases he
 ·match i,hi with
  | 0,_=>
   refine ⟨rfl,fun j c hj=>?_⟩
   have hj:(viewAV w.heap.size)[j]? = some c:=hj
   have:(viewAV w.heap.size++viewBV)[j]? = some c:=by
    have hl:=(Array.getElem?_eq_some_iff.1 hj).1
    rw [Array.getElem?_append_left hl];exact hj
   simp [World.cell?,h2,this]
  | 1,_=>
   refine ⟨rfl,fun j c hj=>?_⟩
   have hj:viewBV[j]? = some c:=hj
   have:(viewAV w.heap.size++viewBV)[8+j]? = some c:=by
    rw [Array.getElem?_append_right (by show 8<=8+j;omega)]
    rw [show 8+j-(viewAV w.heap.size).size=j from by show 8+j-8=j;omega]
    exact hj
   simp [World.cell?,h2,this]
theorem push3_0 (h:Array Obj) (a b c:Obj):(((h.push a).push b).push c)[h.size]? = some a:=by
 rw [Array.getElem?_push,if_neg (by simp;omega),Array.getElem?_push,if_neg (by simp),Array.getElem?_push,if_pos rfl]
theorem push3_2 (h:Array Obj) (a b c:Obj):(((h.push a).push b).push c)[h.size+1+1]? = some c:=by
 rw [Array.getElem?_push,if_pos (by simp)]
theorem push3_s {h:Array Obj} {a b c:Obj} {i:Nat} (hi:i<h.size+3):i<(((h.push a).push b).push c).size:=by
 simp only [Array.size_push];omega
theorem ext_berthmasterlaw18_views_ok:EntOK Tryz.prog G0 23 ext_berthmasterlaw18_views:=by
 have hbo:Tryz.f23.body.isSome=true:=by kernel_rfl
 obtain ⟨body,hbo⟩:=Option.isSome_iff_exists.1 hbo
 intro args v _ hv
 unfold ext_berthmasterlaw18_views at hv
 split at hv
 rotate_left
 ·cases hv
 cases hv
 refine ⟨⟨Tryz.f23,body,Tryz.func23,hbo,by kernel_rfl⟩,pp_views,fun H nx E w cargs hr hva hg hfr=>?_⟩
 have hc:=hva.of_nil
 have hca:cargs=#[]:=by apply Array.toList_inj.1;simpa using hc
 subst hca
 refine (views_walk w).mono fun e w' h=>?_
 obtain ⟨rfl,rfl⟩:=h
 have hb:Below w.heap.size w (((w.alloc (.cells useV 50)).alloc (.cells (viewAV w.heap.size) 41)).alloc (.cells (viewAV w.heap.size++viewBV) 41)):=Joins.below_alloc3 _ _ _ _
 obtain ⟨k1,k2,k3⟩:=below_all hr hb nx
 refine ⟨_,_,rfl,k1,k2,views_vr (push3_0 ..) (push3_2 ..) (.inr ⟨Nat.le_refl _,push3_s (by omega)⟩) (.inr ⟨by omega,push3_s (by omega)⟩)⟩
noncomputable def ext_math_bits_Len:List AV->Option AV:=lenG
theorem ext_math_bits_Len_ok:EntOK Tryz.prog G0 108 ext_math_bits_Len:=by
 have hbo:Tryz.f108.body.isSome=true:=by kernel_rfl
 obtain ⟨body,hbo⟩:=Option.isSome_iff_exists.1 hbo
 exact len_ext Tryz.func108 hbo (by kernel_rfl) fun x w h0 h1=>Tryz.bits_Len x w h0 h1
noncomputable def ext_slices_heapSortCmpFunc_score_rank:List AV->Option AV:=fun _=>none
theorem ext_slices_heapSortCmpFunc_score_rank_ok:EntOK Tryz.prog G0 137 ext_slices_heapSortCmpFunc_score_rank:=.no
noncomputable def ext_slices_breakPatternsCmpFunc_score_rank:List AV->Option AV:=fun _=>none
theorem ext_slices_breakPatternsCmpFunc_score_rank_ok:EntOK Tryz.prog G0 138 ext_slices_breakPatternsCmpFunc_score_rank:=.no
noncomputable def ext_slices_choosePivotCmpFunc_score_rank:List AV->Option AV:=fun _=>none
theorem ext_slices_choosePivotCmpFunc_score_rank_ok:EntOK Tryz.prog G0 139 ext_slices_choosePivotCmpFunc_score_rank:=.no
noncomputable def ext_slices_reverseRangeCmpFunc_score_rank:List AV->Option AV:=fun _=>none
theorem ext_slices_reverseRangeCmpFunc_score_rank_ok:EntOK Tryz.prog G0 140 ext_slices_reverseRangeCmpFunc_score_rank:=.no
noncomputable def ext_slices_partialInsertionSortCmpFunc_score_rank:List AV->Option AV:=fun _=>none
theorem ext_slices_partialInsertionSortCmpFunc_score_rank_ok:EntOK Tryz.prog G0 141 ext_slices_partialInsertionSortCmpFunc_score_rank:=.no
noncomputable def ext_slices_partitionEqualCmpFunc_score_rank:List AV->Option AV:=fun _=>none
theorem ext_slices_partitionEqualCmpFunc_score_rank_ok:EntOK Tryz.prog G0 142 ext_slices_partitionEqualCmpFunc_score_rank:=.no
noncomputable def ext_slices_partitionCmpFunc_score_rank:List AV->Option AV:=fun _=>none
theorem ext_slices_partitionCmpFunc_score_rank_ok:EntOK Tryz.prog G0 143 ext_slices_partitionCmpFunc_score_rank:=.no
noncomputable def ext_strconv_FormatInt:List AV->Option AV:=fmtG
theorem ext_strconv_FormatInt_ok:EntOK Tryz.prog G0 37 ext_strconv_FormatInt:=by
 have hbo:Tryz.f37.body.isSome=true:=by kernel_rfl
 obtain ⟨body,hbo⟩:=Option.isSome_iff_exists.1 hbo
 refine fmt_ext (g:=0) Tryz.func37 hbo (by kernel_rfl) (by kernel_rfl) ?_ fun n h0 h1 w ht=>Tryz.strconv_FormatInt_10 n h0 h1 w ht
 show some (AV.eptr (.agg cells0) 0)=_
 rw [tab0p]
noncomputable def ext_strings_IndexByte:List AV->Option AV:=idxG
theorem ext_strings_IndexByte_ok:EntOK Tryz.prog G0 43 ext_strings_IndexByte:=by
 have hbo:Tryz.f43.body.isSome=true:=by kernel_rfl
 obtain ⟨body,hbo⟩:=Option.isSome_iff_exists.1 hbo
 exact idx_ext Tryz.func43 hbo (by kernel_rfl) fun s c w=>Tryz.strings_IndexByte s c w
noncomputable def ext_strconv_ParseInt:List AV->Option AV:=pintG 237 (.iface 252 (.eptr (.agg [.str [105,110,118,97,108,105,100,32,115,121,110,116,97,120]]) 0)) (.iface 252 (.eptr (.agg [.str [118,97,108,117,101,32,111,117,116,32,111,102,32,114,97,110,103,101]]) 0))
theorem ext_strconv_ParseInt_ok:EntOK Tryz.prog G0 135 ext_strconv_ParseInt:=by
 have hbo:Tryz.f135.body.isSome=true:=by kernel_rfl
 obtain ⟨body,hbo⟩:=Option.isSome_iff_exists.1 hbo
 refine pint_ext (gs:=6) (gr:=7) (ty:=248) Tryz.func135 hbo (by kernel_rfl) G0_pp rfl rfl (fun s hmax v h w=>(Tryz.strconv_ParseInt_10_at64_ok s hmax v h w).mono fun e w' h=>⟨h.1,?_⟩) (fun s hlim h h' ev w hv hev=>Any.strconv_ParseInt_10_at64_syntax Tryz.laysC174 s hlim (by
  revert h h'
  cases Lib.parseIntB 64 s.data.toList with
  | ok v=>exact fun h _=>absurd rfl (h v)
  | range=>exact fun _ h=>absurd rfl h
  | _=>exact fun _ _=>rfl) ev w hv hev) fun s hlim h ev w hv hev=>Tryz.strconv_ParseInt_10_at64_range s hlim h ev w hv hev
 rcases h.2 with rfl | ⟨t,rfl⟩
 ·exact Below.refl _ _
 ·exact Lib.bytesWorld_below _ _ _
noncomputable def ext_strconv_Itoa:List AV->Option AV:=itoaG
theorem ext_strconv_Itoa_ok:EntOK Tryz.prog G0 36 ext_strconv_Itoa:=by
 have hbo:Tryz.f36.body.isSome=true:=by kernel_rfl
 obtain ⟨body,hbo⟩:=Option.isSome_iff_exists.1 hbo
 exact itoa_ext Tryz.func36 hbo (by kernel_rfl) (fun i hi w=>Tryz.strconv_Itoa_small i hi w) globs_pure
end Go.Proofs.YthiefohjkbdjeaaGreatDoor.scoreBounds
