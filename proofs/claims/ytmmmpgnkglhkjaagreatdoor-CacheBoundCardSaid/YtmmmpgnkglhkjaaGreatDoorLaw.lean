/- CACHEBOUND: WHAT ITS WALK GIVES: true, whatever the numbers. No condition but on the calls that it makes. -/
import Derived.Test.YtmmmpgnkglhkjaaGreatDoorCacheRing
import Derived.Laws.BitsLemmas
set_option linter.unusedVariables false
set_option linter.unusedSimpArgs false
namespace Go.Proofs.YtmmmpgnkglhkjaaGreatDoor.cacheBound
open Go.Sy Go.Proofs.YtmmmpgnkglhkjaaGreatDoor.cacheW
/- berthmaster/berthmasterlaw19.CacheBound -/
noncomputable def x3_r0 : XC := .reg [⟨(some 22), .mov (.t 5), none⟩,
    ⟨(some 23), .mov (.t 6), none⟩,
    ⟨(some 24), .call 8 [.t 23], none⟩,
    ⟨(some 25), .call 9 [.c (.str [121]), .c (.int .i64 5)], none⟩,
    ⟨(some 26), .call 10 [.c (.str [97]), .c (.int .i64 10)], none⟩,
    ⟨(some 27), .call 7 [.t 22, .t 24, .c (.int .u64 1), .t 25, .t 26], none⟩,
    ⟨(some 21), .mov (.t 27), none⟩,
    ⟨(some 28), .ext (.t 21) 0, none⟩,
    ⟨(some 29), .ext (.t 21) 1, none⟩,
    ⟨(some 7), .mov (.t 28), none⟩,
    ⟨(some 8), .mov (.t 29), none⟩]
noncomputable def x3_r1 : XC := .reg [⟨(some 30), .mov (.t 8), none⟩,
    ⟨(some 31), .bin .neq (.t 30) (.c (.int .i64 0)), none⟩,
    ⟨(some 32), .mov (.t 31), none⟩,
    ⟨(some 33), .mov (.t 5), (some (32, false))⟩,
    ⟨(some 34), .call 11 [.t 33], (some (32, false))⟩,
    ⟨(some 35), .mov (.t 6), (some (32, false))⟩,
    ⟨(some 36), .bin .add (.t 35) (.c (.int .i64 1)), (some (32, false))⟩,
    ⟨(some 37), .min (.t 36) (.c (.int .i64 4096)), (some (32, false))⟩,
    ⟨(some 38), .bin .neq (.t 34) (.t 37), (some (32, false))⟩,
    ⟨(some 39), .pick (.t 32) (.c (.bool true)) (.t 38), none⟩]
noncomputable def x3_r2 : XC := .reg [⟨(some 42), .mov (.t 5), none⟩,
    ⟨(some 43), .mov (.t 1), none⟩,
    ⟨(some 44), .call 8 [.t 43], none⟩,
    ⟨(some 45), .call 9 [.c (.str [121]), .c (.int .i64 5)], none⟩,
    ⟨(some 46), .call 10 [.c (.str [97]), .c (.int .i64 10)], none⟩,
    ⟨(some 47), .call 7 [.t 42, .t 44, .c (.int .u64 1), .t 45, .t 46], none⟩]
noncomputable def x3_l3 : XC := .seq (.seq (.reg [⟨(some 16), .mov (.t 6), none⟩,
    ⟨(some 17), .mov (.t 0), none⟩,
    ⟨(some 18), .bin .lss (.t 16) (.t 17), none⟩]) (.cond (.t 18) (.skip) (.exit 0))) (.seq (.block 1 (.seq (x3_r0) (.seq (.seq (x3_r1) (.cond (.t 39) (.seq (.reg [⟨(some 4), .mov (.c (.bool false)), none⟩]) (.ret)) (.skip))) (.seq (.reg [⟨(some 40), .mov (.t 6), none⟩,
    ⟨(some 41), .bin .eql (.t 40) (.c (.int .i64 4000)), none⟩]) (.cond (.t 41) (x3_r2) (.skip)))))) (.reg [⟨(some 19), .mov (.t 6), none⟩,
    ⟨(some 20), .bin .add (.t 19) (.c (.int .i64 1)), none⟩,
    ⟨(some 6), .mov (.t 20), none⟩]))
noncomputable def x3_r4 : XC := .reg [⟨(some 48), .mov (.t 0), none⟩,
    ⟨(some 49), .bin .gtr (.t 48) (.c (.int .i64 0)), none⟩,
    ⟨(some 50), .mov (.t 49), none⟩,
    ⟨(some 51), .mov (.t 5), (some (50, true))⟩,
    ⟨(some 52), .mov (.t 0), (some (50, true))⟩,
    ⟨(some 53), .bin .sub (.t 52) (.c (.int .i64 1)), (some (50, true))⟩,
    ⟨(some 54), .call 8 [.t 53], (some (50, true))⟩,
    ⟨(some 55), .call 12 [.t 51, .t 54, .c (.str [97]), .c (.int .u64 1)], (some (50, true))⟩,
    ⟨(some 56), .un .not (.t 55), (some (50, true))⟩,
    ⟨(some 57), .pick (.t 50) (.t 56) (.c (.bool false)), none⟩,
    ⟨(some 58), .mov (.t 57), none⟩,
    ⟨(some 59), .mov (.t 1), (some (58, false))⟩,
    ⟨(some 60), .mov (.t 0), (some (58, false))⟩,
    ⟨(some 61), .bin .lss (.t 59) (.t 60), (some (58, false))⟩,
    ⟨(some 62), .mov (.t 61), (some (58, false))⟩,
    ⟨(some 63), .mov (.t 5), (some (62, true))⟩,
    ⟨(some 64), .mov (.t 1), (some (62, true))⟩,
    ⟨(some 65), .call 8 [.t 64], (some (62, true))⟩,
    ⟨(some 66), .call 12 [.t 63, .t 65, .c (.str [97]), .c (.int .u64 1)], (some (62, true))⟩,
    ⟨(some 67), .un .not (.t 66), (some (62, true))⟩,
    ⟨(some 68), .pick (.t 62) (.t 67) (.c (.bool false)), (some (58, false))⟩,
    ⟨(some 69), .pick (.t 58) (.c (.bool true)) (.t 68), none⟩]
noncomputable def x3_r5 : XC := .reg [⟨(some 70), .mov (.t 0), none⟩,
    ⟨(some 71), .bin .leq (.t 70) (.c (.int .i64 4096)), none⟩,
    ⟨(some 72), .mov (.t 71), none⟩,
    ⟨(some 73), .mov (.t 1), (some (72, false))⟩,
    ⟨(some 74), .bin .eql (.t 73) (.c (.int .i64 0)), (some (72, false))⟩,
    ⟨(some 75), .pick (.t 72) (.c (.bool true)) (.t 74), none⟩,
    ⟨(some 76), .mov (.t 75), none⟩,
    ⟨(some 77), .mov (.t 5), (some (76, false))⟩,
    ⟨(some 78), .call 8 [.c (.int .i64 0)], (some (76, false))⟩,
    ⟨(some 79), .call 12 [.t 77, .t 78, .c (.str [97]), .c (.int .u64 1)], (some (76, false))⟩,
    ⟨(some 80), .un .not (.t 79), (some (76, false))⟩,
    ⟨(some 81), .pick (.t 76) (.c (.bool true)) (.t 80), none⟩,
    ⟨(some 4), .mov (.t 81), none⟩]
noncomputable def x3 : XF := ⟨2, 82, .seq (.reg [⟨(some 4), .mov (.c (.bool false)), none⟩]) (.seq (.seq (.reg [⟨(some 9), .call 4 [], none⟩,
    ⟨(some 10), .un .not (.t 9), none⟩]) (.cond (.t 10) (.seq (.reg [⟨(some 4), .mov (.c (.bool false)), none⟩]) (.ret)) (.skip))) (.seq (.reg [⟨(some 11), .mov (.t 0), none⟩,
    ⟨(some 12), .call 5 [.t 11, .c (.int .i64 5000)], none⟩,
    ⟨(some 0), .mov (.t 12), none⟩]) (.seq (.reg [⟨(some 13), .mov (.t 1), none⟩,
    ⟨(some 14), .call 5 [.t 13, .c (.int .i64 4001)], none⟩,
    ⟨(some 1), .mov (.t 14), none⟩]) (.seq (.reg [⟨(some 15), .call 6 [], none⟩,
    ⟨(some 5), .mov (.t 15), none⟩]) (.seq (.seq (.reg [⟨(some 6), .mov (.c (.int .i64 0)), none⟩]) (.block 0 (.loop x3_l3))) (.seq (.seq (x3_r4) (.cond (.t 69) (.seq (.reg [⟨(some 4), .mov (.c (.bool false)), none⟩]) (.ret)) (.skip))) (.seq (x3_r5) (.ret)))))))), [.t 4]⟩
theorem fx3 : FnX Tryz.prog 3 x3 := ⟨⟨Tryz.f3, Tryz.func3, by kernel_rfl, by kernel_rfl⟩⟩
/- berthmaster/berthmasterkit.Pick -/
noncomputable def x5_r0 : XC := .reg [⟨(some 7), .mov (.t 0), none⟩,
    ⟨(some 8), .mov (.t 1), none⟩,
    ⟨(some 9), .bin .rem (.t 7) (.t 8), none⟩,
    ⟨(some 10), .mov (.t 1), none⟩,
    ⟨(some 11), .bin .add (.t 9) (.t 10), none⟩,
    ⟨(some 12), .mov (.t 1), none⟩,
    ⟨(some 13), .bin .rem (.t 11) (.t 12), none⟩,
    ⟨(some 4), .mov (.t 13), none⟩]
noncomputable def x5 : XF := ⟨2, 14, .seq (.reg [⟨(some 4), .mov (.c (.int .i64 0)), none⟩]) (.seq (.seq (.reg [⟨(some 5), .mov (.t 1), none⟩,
    ⟨(some 6), .bin .lss (.t 5) (.c (.int .i64 1)), none⟩]) (.cond (.t 6) (.seq (.reg [⟨(some 4), .mov (.c (.int .i64 0)), none⟩]) (.ret)) (.skip))) (.seq (x5_r0) (.ret))), [.t 4]⟩
theorem fx5 : FnX Tryz.prog 5 x5 := ⟨⟨Tryz.f5, Tryz.func5, by kernel_rfl, by kernel_rfl⟩⟩
/- berthmaster/berthmasterlaw19.key -/
noncomputable def x8_r0 : XC := .reg [⟨(some 3), .mov (.t 0), none⟩,
    ⟨(some 4), .conv .u8 (.t 3), none⟩,
    ⟨(some 5), .mov (.t 0), none⟩,
    ⟨(some 6), .bin .shr (.t 5) (.c (.int .u64 8)), none⟩,
    ⟨(some 7), .conv .u8 (.t 6), none⟩,
    ⟨(some 8), .bslice 3 1 [.int .u8 0, .int .u8 0, .int .u8 0] [(0, 1, .c (.int .u8 107)), (1, 1, .t 4), (2, 1, .t 7)], none⟩,
    ⟨(some 9), .b2s (.t 8), none⟩,
    ⟨(some 2), .mov (.t 9), none⟩]
noncomputable def x8 : XF := ⟨1, 10, .seq (.reg [⟨(some 2), .mov (.c (.str [])), none⟩]) (.seq (x8_r0) (.ret)), [.t 2]⟩
theorem fx8 : FnX Tryz.prog 8 x8 := ⟨⟨Tryz.f8, Tryz.func8, by kernel_rfl, by kernel_rfl⟩⟩

theorem fn_some {P : Program} {G : Cx} {call : Sy.Call} {f : Nat} {xf : XF} (hx : FnX P f xf) (hm : MethOK P G) (hmix : P.follows .mixedOrders = true) (hcall : CallOK P G call) {args : List AV} {H : Heap} {nx : Nat} (hlen : args.length = xf.np) {v : AV}
    (h : CC G call xf.body (endQ xf.res fun u _ _ => u = v) (slots 0 (pad xf.nt args)) H nx) : Sy.Enters P f ∧ ∃ H' nx', nx ≤ nx' ∧ FnT P G f args H nx v H' nx' := by
  obtain ⟨lf, x, fr', A, n, e, q⟩ := WC_W _ h.out
  obtain ⟨hne, vs, hvs, hq⟩ := endQ_some q
  have := fn_run hx hm hmix hcall .keep hlen (v := v) (H' := A) (nx' := n) ⟨lf, x, fr', A, n, e, endQ_mk hne hvs (by simp only [finish, hq])⟩
  exact ⟨this.1, A, n, this.2.1, this.2.2⟩
/- Two small functions. -/
def keyN (i : Nat) : List Nat := [107, i % 256, i / 256 % 256]
def gKey : List AV → Option AV
  | [.int .i64 (.ofNat i)] => some (.str (keyN i))
  | _ => none
theorem wrap8 (m : Nat) : wrapx .u8 (.ofNat m) = .ofNat (m % 256) := by
  have h : (IntKind.u8.wrap (.ofNat m)) = .ofNat (m % 256) := by rw [IntKind.wrap_u8]; rfl
  simp only [wrapx, h]
  cases hb : Nat.ble m 255 with
  | false => rfl
  | true =>
    have := Nat.le_of_ble_eq_true hb
    rw [Nat.mod_eq_of_lt (by omega)]
    rfl
theorem key_pure {G : Cx} (hG : PureG G) (hm : MethOK Tryz.prog G) (hmix : Tryz.prog.follows .mixedOrders = true) : PureOK Tryz.prog G 8 gKey := by
  intro args v h
  unfold gKey at h
  split at h
  rotate_left
  · cases h
  rename_i i
  cases h
  refine fn_pure fx8 hG hm hmix callP_nil rfl rfl rfl (WC_W _ (CC.out ?_))
  have g0 : (slots 0 (pad x8.nt [AV.int .i64 (.ofNat i)])).get 0 = some (.int .i64 (.ofNat i)) := rfl
  generalize slots 0 (pad x8.nt [AV.int .i64 (.ofNat i)]) = fr0 at g0
  clear hm hmix hG
  have hsh : xbin .shr (.int .i64 (.ofNat i)) (.int .u64 8) = some (.int .i64 (.ofNat (i / 256))) := by
    have h1 : xbin .shr (.int .i64 (.ofNat i)) (.int .u64 8) = some (.int .i64 ((Int.ofNat i).fdiv 256)) := rfl
    have h2 : (Int.ofNat i).fdiv 256 = .ofNat (i / 256) := by
      rw [Int.fdiv_eq_ediv_of_nonneg _ (by omega)]; rfl
    rw [h1, h2]
  simp only [x8]
  iterate 1 all_goals (first | with_reducible refine stp ?_ | with_reducible refine B_o rfl ?_ | with_reducible refine A_condT ?_ | with_reducible refine A_condF ?_ | with_reducible refine A_cond2 (fun hc => ?_) (fun hc => ?_) | with_reducible refine A_E ?_ | skip)
  all_goals (with_reducible refine C_reg ?_)
  all_goals (with_reducible refine A_mov ?_)
  all_goals refine O_nil ?_
  iterate 3 all_goals (first | with_reducible refine stp ?_ | with_reducible refine B_o rfl ?_ | with_reducible refine A_condT ?_ | with_reducible refine A_condF ?_ | with_reducible refine A_cond2 (fun hc => ?_) (fun hc => ?_) | with_reducible refine A_E ?_ | skip)
  have hw1 := wrap8 i
  have hw2 := wrap8 (i / 256)
  have hct : content [(0, HO.cells false [.int .u8 107, .int .u8 (wrapx .u8 (.ofNat i)), .int .u8 (wrapx .u8 (.ofNat (i / 256)))])] 1 (.row 0 0 3 1 3 true) = some (3, [.int .u8 107, .int .u8 (wrapx .u8 (.ofNat i)), .int .u8 (wrapx .u8 (.ofNat (i / 256)))]) := rfl
  have hby : toBytes [.int .u8 107, .int .u8 (wrapx .u8 (.ofNat i)), .int .u8 (wrapx .u8 (.ofNat (i / 256)))] = some (keyN i) := by
    rw [hw1, hw2]; rfl
  clear hw1 hw2
  all_goals (unfold x8_r0)
  all_goals (with_reducible refine C_reg ?_)
  all_goals (with_reducible refine A_mov ?_)
  all_goals (with_reducible refine A_conv ?_)
  all_goals (with_reducible refine A_mov ?_)
  all_goals (refine A_bin ?_)
  all_goals (with_reducible refine A_conv ?_)
  all_goals (with_reducible refine A_bslice ?_)
  all_goals (refine A_b2s ?_)
  all_goals (with_reducible refine A_mov ?_)
  all_goals refine O_nil ?_
  iterate 6 all_goals (first | with_reducible refine stp ?_ | with_reducible refine B_o rfl ?_ | with_reducible refine A_condT ?_ | with_reducible refine A_condF ?_ | with_reducible refine A_cond2 (fun hc => ?_) (fun hc => ?_) | with_reducible refine A_E ?_ | skip)
  exact ⟨rfl⟩
def pickN (x : Int) (n : Nat) : Nat := ((x.tmod n + n).tmod n).toNat
def gPick : List AV → Option AV
  | [.int .i64 x, .int .i64 (.ofNat n)] => match Nat.blt 0 n && Nat.blt n 100000 with
    | true => some (.int .i64 (.ofNat (pickN x n)))
    | false => none
  | _ => none
theorem pickN_lt (x : Int) {n : Nat} (h : 0 < n) : pickN x n < n := by
  unfold pickN
  have h1 : (x.tmod n + n).tmod n < n := Int.tmod_lt_of_pos _ (by omega)
  have h2 : -(n : Int) < x.tmod n := by
    have := Int.lt_tmod_of_pos x (b := (n : Int)) (by omega)
    omega
  have h3 : 0 ≤ (x.tmod n + n).tmod n := Int.tmod_nonneg _ (by omega)
  omega
theorem wrap64 {n : Int} (h1 : -9223372036854775808 ≤ n) (h2 : n ≤ 9223372036854775807) : wrapx .i64 n = n := by
  have h : IntKind.i64.wrap n = n := by rw [IntKind.wrap_i64]; omega
  cases n with
  | ofNat m =>
    have hb : Nat.ble m 9223372036854775807 = true := by
      rw [Nat.ble_eq]
      rw [Int.ofNat_eq_natCast] at h2
      omega
    simp only [wrapx, hb, cond_true]
  | negSucc m =>
    simp only [wrapx]
    rw [h]
    cases Nat.ble m 9223372036854775807 <;> simp only [cond_true, cond_false]
theorem pick_pure {G : Cx} (hG : PureG G) (hm : MethOK Tryz.prog G) (hmix : Tryz.prog.follows .mixedOrders = true) : PureOK Tryz.prog G 5 gPick := by
  intro args v h
  unfold gPick at h
  split at h
  rotate_left
  · cases h
  rename_i x n
  split at h
  rotate_left
  · cases h
  rename_i hn
  cases h
  rw [Bool.and_eq_true, Nat.blt_eq, Nat.blt_eq] at hn
  obtain ⟨hn0, hn1⟩ := hn
  refine fn_pure fx5 hG hm hmix callP_nil rfl rfl rfl (WC_W _ (CC.out ?_))
  have g0 : (slots 0 (pad x5.nt [AV.int .i64 x, .int .i64 (.ofNat n)])).get 0 = some (.int .i64 x) := rfl
  have g1 : (slots 0 (pad x5.nt [AV.int .i64 x, .int .i64 (.ofNat n)])).get 1 = some (.int .i64 (.ofNat n)) := rfl
  generalize slots 0 (pad x5.nt [AV.int .i64 x, .int .i64 (.ofNat n)]) = fr0 at g0 g1
  clear hm hmix hG
  have hb0 : ((Int.ofNat n) == 0) = false := by
    rw [beq_eq_false_iff_ne, Int.ofNat_eq_natCast]; omega
  have hlt : decide (Int.ofNat n < 1) = false := by simp only [decide_eq_false_iff_not, Int.ofNat_eq_natCast]; omega
  have l1 : -(n : Int) < x.tmod n := by
    have := Int.lt_tmod_of_pos x (b := (n : Int)) (by omega)
    omega
  have l2 : x.tmod n < n := Int.tmod_lt_of_pos _ (by omega)
  have r1 : xbin .rem (.int .i64 x) (.int .i64 (.ofNat n)) = some (.int .i64 (x.tmod (.ofNat n))) := by
    simp only [xbin, ksame, hb0]
  have r2 : xbin .add (.int .i64 (x.tmod (.ofNat n))) (.int .i64 (.ofNat n)) = some (.int .i64 (x.tmod (.ofNat n) + .ofNat n)) := by
    have : wrapx .i64 (x.tmod (.ofNat n) + .ofNat n) = x.tmod (.ofNat n) + .ofNat n := wrap64 (by simp only [Int.ofNat_eq_natCast]; omega) (by simp only [Int.ofNat_eq_natCast]; omega)
    simp only [xbin, ksame, this]
  have r3 : xbin .rem (.int .i64 (x.tmod (.ofNat n) + .ofNat n)) (.int .i64 (.ofNat n)) = some (.int .i64 (.ofNat (pickN x n))) := by
    have : (x.tmod (.ofNat n) + .ofNat n).tmod (.ofNat n) = .ofNat (pickN x n) := by
      unfold pickN
      simp only [Int.ofNat_eq_natCast]
      have h3 : 0 ≤ (x.tmod n + n).tmod n := Int.tmod_nonneg _ (by omega)
      omega
    simp only [xbin, ksame, hb0, this]
  clear hb0 l1 l2 hn0 hn1
  simp only [x5]
  iterate 1 all_goals (first | with_reducible refine stp ?_ | with_reducible refine B_o rfl ?_ | with_reducible refine A_condT ?_ | with_reducible refine A_condF ?_ | with_reducible refine A_cond2 (fun hc => ?_) (fun hc => ?_) | with_reducible refine A_E ?_ | skip)
  all_goals (with_reducible refine C_reg ?_)
  all_goals (with_reducible refine A_mov ?_)
  all_goals refine O_nil ?_
  iterate 3 all_goals (first | with_reducible refine stp ?_ | with_reducible refine B_o rfl ?_ | with_reducible refine A_condT ?_ | with_reducible refine A_condF ?_ | with_reducible refine A_cond2 (fun hc => ?_) (fun hc => ?_) | with_reducible refine A_E ?_ | skip)
  all_goals (with_reducible refine C_reg ?_)
  all_goals (with_reducible refine A_mov ?_)
  all_goals (refine A_bin ?_)
  all_goals refine O_nil ?_
  iterate 6 all_goals (first | with_reducible refine stp ?_ | with_reducible refine B_o rfl ?_ | with_reducible refine A_condT ?_ | with_reducible refine A_condF ?_ | with_reducible refine A_cond2 (fun hc => ?_) (fun hc => ?_) | with_reducible refine A_E ?_ | skip)
  all_goals (unfold x5_r0)
  all_goals (with_reducible refine C_reg ?_)
  all_goals (with_reducible refine A_mov ?_)
  all_goals (with_reducible refine A_mov ?_)
  all_goals (refine A_bin ?_)
  all_goals (with_reducible refine A_mov ?_)
  all_goals (refine A_bin ?_)
  all_goals (with_reducible refine A_mov ?_)
  all_goals (refine A_bin ?_)
  all_goals (with_reducible refine A_mov ?_)
  all_goals refine O_nil ?_
  iterate 6 all_goals (first | with_reducible refine stp ?_ | with_reducible refine B_o rfl ?_ | with_reducible refine A_condT ?_ | with_reducible refine A_condF ?_ | with_reducible refine A_cond2 (fun hc => ?_) (fun hc => ?_) | with_reducible refine A_E ?_ | skip)
  exact ⟨rfl⟩
/- THE PLAIN LAW: who is held, the one that was asked for longest ago first. -/
def putL (l : List Nat) (i : Nat) : List Nat := (if l.length < 4096 then l else l.tail) ++ [i]
def touchL (l : List Nat) (a : Nat) : List Nat := l.erase a ++ [a]
def st (a : Nat) : Nat → List Nat
  | 0 => []
  | i + 1 => if i = 4000 then touchL (putL (st a i) i) a else putL (st a i) i
theorem mem_putL {l : List Nat} {i x : Nat} (h : x ∈ putL l i) : x ∈ l ∨ x = i := by
  unfold putL at h
  rcases List.mem_append.1 h with h | h
  · split at h
    · exact .inl h
    · exact .inl (List.mem_of_mem_tail h)
  · exact .inr (by simpa using h)
theorem st_lt {a : Nat} (ha : a ≤ 4000) : ∀ (i x : Nat), x ∈ st a i → x < i
  | 0, x, h => by cases h
  | i + 1, x, h => by
    unfold st at h
    split at h
    · rename_i hi
      unfold touchL at h
      rcases List.mem_append.1 h with h | h
      · rcases mem_putL (List.mem_of_mem_erase h) with h | h
        · have := st_lt ha i x h; omega
        · omega
      · have : x = a := by simpa using h
        omega
    · rcases mem_putL h with h | h
      · have := st_lt ha i x h; omega
      · omega
theorem st_le (a : Nat) : ∀ i, i ≤ 4000 → st a i = List.range i
  | 0, _ => rfl
  | i + 1, h => by
    unfold st
    rw [if_neg (by omega), st_le a i (by omega), putL, List.length_range, if_pos (by omega), List.range_succ]
def base (a : Nat) : List Nat := (List.range 4001).erase a ++ [a]
theorem base_len {a : Nat} (ha : a ≤ 4000) : ((List.range 4001).erase a).length = 4000 := by
  rw [List.length_erase_of_mem (List.mem_range.2 (by omega)), List.length_range]
theorem put_4000 (a : Nat) : putL (st a 4000) 4000 = List.range 4001 := by
  rw [st_le a 4000 (Nat.le_refl _), putL, List.length_range, if_pos (by omega), ← List.range_succ]
theorem st_gt {a : Nat} (ha : a ≤ 4000) : ∀ j, st a (4001 + j) = (base a ++ List.range' 4001 j).drop (4001 + j - 4096)
  | 0 => by
    show (if 4000 = 4000 then _ else _) = _
    rw [if_pos rfl, put_4000, List.range'_zero, List.append_nil]
    rfl
  | j + 1 => by
    have ih := st_gt ha j
    have hlen : (base a ++ List.range' 4001 j).length = 4001 + j := by
      rw [List.length_append, base, List.length_append, base_len ha, List.length_range']; simp
    show (if 4001 + j = 4000 then _ else putL (st a (4001 + j)) (4001 + j)) = _
    rw [if_neg (by omega), ih, putL, List.length_drop, hlen]
    have hcat : base a ++ List.range' 4001 (j + 1) = (base a ++ List.range' 4001 j) ++ [4001 + j] := by
      rw [List.range'_concat, List.append_assoc]
      simp
    rw [hcat]
    by_cases h : 4001 + j < 4096
    · rw [if_pos (by omega)]
      have e1 : 4001 + j - 4096 = 0 := Nat.sub_eq_zero_of_le (Nat.le_of_lt h)
      have e2 : 4001 + (j + 1) - 4096 = 0 := Nat.sub_eq_zero_of_le (by rw [← Nat.add_assoc]; exact h)
      rw [e1, e2, List.drop_zero, List.drop_zero]
    · rw [if_neg (by omega), List.tail_drop]
      have e : 4001 + (j + 1) - 4096 = 4001 + j - 4096 + 1 := by omega
      have hd := List.drop_append_of_le_length (l₂ := [4001 + j]) (show 4001 + j - 4096 + 1 ≤ (base a ++ List.range' 4001 j).length by omega)
      rw [e, hd]
theorem st_len {a : Nat} (ha : a ≤ 4000) (i : Nat) : (st a i).length = if 4096 < i then 4096 else i := by
  by_cases h : i ≤ 4000
  · rw [st_le a i h, List.length_range, if_neg (by omega)]
  · obtain ⟨j, rfl⟩ : ∃ j, i = 4001 + j := ⟨i - 4001, by omega⟩
    rw [st_gt ha j, List.length_drop, List.length_append, base, List.length_append, base_len ha, List.length_range']
    simp only [List.length_cons, List.length_nil]
    split <;> omega
theorem st_last {a : Nat} (i : Nat) : i ∈ st a (i + 1) := by
  unfold st
  have h : i ∈ putL (st a i) i := by unfold putL; simp
  split
  · unfold touchL
    by_cases e : i = a
    · rw [e]; simp
    · exact List.mem_append_left _ ((List.mem_erase_of_ne e).2 h)
  · exact h
theorem st_again {a n : Nat} (ha : a ≤ 4000) (h : a < n) (hn : n ≤ 5000) : a ∈ st a n := by
  by_cases h1 : n ≤ 4000
  · rw [st_le a n h1]; exact List.mem_range.2 h
  · obtain ⟨j, rfl⟩ : ∃ j, n = 4001 + j := ⟨n - 4001, by omega⟩
    rw [st_gt ha j, base, List.append_assoc, List.drop_append_of_le_length (by rw [base_len ha]; omega)]
    simp
theorem st_zero {a n : Nat} (ha : a ≤ 4000) (h0 : a ≠ 0) (hn : 4096 < n) : 0 ∉ st a n := by
  obtain ⟨j, rfl⟩ : ∃ j, n = 4001 + j := ⟨n - 4001, by omega⟩
  rw [st_gt ha j]
  intro hm
  have h1 : 0 ∈ (base a ++ List.range' 4001 j).drop 1 := by
    have e : 4001 + j - 4096 = 1 + (4001 + j - 4096 - 1) := by omega
    rw [e, ← List.drop_drop] at hm
    exact List.mem_of_mem_drop hm
  have e : base a = 0 :: ((List.range' 1 4000).erase a ++ [a]) := by
    unfold base
    have : List.range 4001 = 0 :: List.range' 1 4000 := by rw [List.range_eq_range', List.range'_succ]
    rw [this, List.erase_cons_tail (by simpa using fun e => h0 e.symm)]
    rfl
  rw [e] at h1
  simp only [List.cons_append, List.drop_succ_cons, List.drop_zero] at h1
  rcases List.mem_append.1 h1 with h1 | h1
  · rcases List.mem_append.1 h1 with h1 | h1
    · have := List.mem_of_mem_erase h1
      simp only [List.mem_range'] at this
      obtain ⟨i, _, hi⟩ := this
      omega
    · have : 0 = a := by simpa using h1
      omega
  · simp only [List.mem_range'] at h1
    obtain ⟨i, _, hi⟩ := h1
    omega
theorem keyN_inj {i j : Nat} (hi : i < 65536) (hj : j < 65536) (h : keyN i = keyN j) : i = j := by
  unfold keyN at h
  simp only [List.cons.injEq, and_true, true_and] at h
  omega
def ent (j : Nat) : Ent := ⟨(keyN j, [97]), 1, 13500, true⟩
def nV : List AV := [.str [121], .int .i64 1, .int .i64 5, .int .i64 0, .int .i64 0, .int .i64 0, .lst 6 [.agg [.int .i64 1, .str [], .str [], .int .i64 0, .int .i64 (-1), .int .i64 (-1)]], .str []]
def vR : List AV := [.nilslice, .int .i64 10, .int .i64 0, .int .i64 0, .int .i64 0, .bool true, .nilslice]
/-- A cache that holds the keys of some numbers. -/
def Holds (c r mp : Nat) (l : List Nat) (H : Heap) (nx : Nat) : Prop := ∃ C, Rep c r mp C H nx ∧ C.map (·.2) = l.map ent
theorem Holds.len {c r mp : Nat} {l : List Nat} {C : List (Nat × Ent)} (h : C.map (·.2) = l.map ent) : C.length = l.length := by
  have := congrArg List.length h
  simpa using this
theorem Holds.keys {l : List Nat} {C : List (Nat × Ent)} (h : C.map (·.2) = l.map ent) : ksOf C = l.map fun j => (keyN j, [97]) := by
  have := congrArg (List.map Ent.k) h
  rw [List.map_map, List.map_map] at this
  exact this
theorem Holds.absent {l : List Nat} {C : List (Nat × Ent)} (h : C.map (·.2) = l.map ent) {i : Nat} (hi : i < 65536) (hl : ∀ x ∈ l, x < 65536) (hn : i ∉ l) : (keyN i, [97]) ∉ ksOf C := by
  rw [Holds.keys h]
  intro hm
  obtain ⟨j, hj, e⟩ := List.mem_map.1 hm
  have := keyN_inj (hl j hj) hi (congrArg Prod.fst e)
  exact hn (this ▸ hj)
variable {gS : List AV → Option AV} (hg : gS [.agg nV, .agg (.str [97] :: vR)] = some (.tup [.int .i64 13500, .int .i64 0]))
include hg in
theorem Holds.put {c r mp : Nat} {l : List Nat} {H : Heap} {nx : Nat} (h : Holds c r mp l H nx) {i : Nat} (hi : i < 65536) (hl : ∀ x ∈ l, x < 65536) (hn : i ∉ l) (hlen : l.length ≤ 100000) :
    ∃ H' nx', scoreF gS [.ptr c 0, .str (keyN i), .int .u64 1, .agg nV, .agg (.str [97] :: vR)] H nx = some (.tup [.int .i64 13500, .int .i64 0], H', nx') ∧ Holds c r mp (putL l i) H' nx' := by
  obtain ⟨C, hC, hm⟩ := h
  have hcl := Holds.len (c := c) (r := r) (mp := mp) hm
  obtain ⟨H', nx', x, h1, _, h2⟩ := hC.miss (by omega) (gS := gS) (key := keyN i) (name := [97]) (ver := 1) (nv := nV) (vr := vR) rfl rfl (by simp [keyN]) (by simp [keyN]) hg rfl (Holds.absent hm hi hl hn)
  refine ⟨H', nx', h1, _, h2, ?_⟩
  rw [List.map_append, putL, List.map_append]
  congr 1
  unfold held1
  by_cases hc : l.length < 4096
  · have : Nat.blt C.length 4096 = true := by rw [Nat.blt_eq, hcl]; exact hc
    rw [this, if_pos hc]
    exact hm
  · have : Nat.blt C.length 4096 = false := by
      cases hb : Nat.blt C.length 4096 with
      | false => rfl
      | true => rw [Nat.blt_eq, hcl] at hb; exact absurd hb hc
    rw [this, if_neg hc]
    show C.tail.map _ = _
    rw [List.map_tail, List.map_tail, hm]
theorem Holds.touch {c r mp : Nat} {l : List Nat} {H : Heap} {nx : Nat} (h : Holds c r mp l H nx) {a : Nat} (ha : a ∈ l) :
    ∃ H' nx', scoreF gS [.ptr c 0, .str (keyN a), .int .u64 1, .agg nV, .agg (.str [97] :: vR)] H nx = some (.tup [.int .i64 13500, .int .i64 0], H', nx') ∧ Holds c r mp (touchL l a) H' nx' := by
  obtain ⟨C, hC, hm⟩ := h
  obtain ⟨la, lb, rfl, hla⟩ := List.eq_append_cons_of_mem ha
  rw [List.map_append, List.map_cons] at hm
  obtain ⟨A, B0, rfl, hA, hB⟩ := List.map_eq_append_iff.1 hm
  obtain ⟨p, B, rfl, hp, hB2⟩ := List.map_eq_cons_iff.1 hB
  obtain ⟨x, en⟩ := p
  simp only at hp
  subst hp
  obtain ⟨H', nx', h1, _, h2⟩ := hC.again (gS := gS) (key := keyN a) (name := [97]) (nv := nV) (vr := vR) rfl rfl (by simp [keyN]) (by simp [keyN]) rfl
  refine ⟨H', nx', h1, _, h2, ?_⟩
  rw [touchL, List.erase_append_right _ hla, List.erase_cons_head]
  simp only [List.map_append, List.map_cons, List.map_nil, hA, hB2]
theorem Holds.held {c r mp : Nat} {l : List Nat} {H : Heap} {nx : Nat} (h : Holds c r mp l H nx) (hlen : l.length ≤ 100000) : heldF [.ptr c 0] H nx = some (.int .i64 (.ofNat l.length), H, nx) := by
  obtain ⟨C, hC, hm⟩ := h
  have hcl := Holds.len (c := c) (r := r) (mp := mp) hm
  rw [hC.held (by omega), hcl]
theorem Holds.known {c r mp : Nat} {l : List Nat} {H : Heap} {nx : Nat} (h : Holds c r mp l H nx) (hl : ∀ x ∈ l, x < 65536) {i : Nat} (hi : i < 65536) :
    ∃ o, knownF [.ptr c 0, .str (keyN i), .str [97], .int .u64 1] H nx = some (.bool (decide (i ∈ l)), (nx, o) :: H, nx + 1) ∧ Holds c r mp l ((nx, o) :: H) (nx + 1) := by
  obtain ⟨C, hC, hm⟩ := h
  obtain ⟨k1, k2⟩ := hC.known (keyN i, [97]) 1
  by_cases hil : i ∈ l
  · have : ent i ∈ C.map (·.2) := by rw [hm]; exact List.mem_map_of_mem hil
    obtain ⟨p, hp, hpe⟩ := List.mem_map.1 this
    obtain ⟨o, ho⟩ := k2 p hp (by rw [hpe]; rfl)
    rw [hpe] at ho
    refine ⟨o, ?_, C, hC.push o, hm⟩
    rw [decide_eq_true hil]
    exact ho
  · obtain ⟨o, ho⟩ := k1 (Holds.absent hm hi hl hil)
    refine ⟨o, ?_, C, hC.push o, hm⟩
    rw [decide_eq_false hil]
    exact ho
def minK (k : Int) (n : Nat) : Int := if k < Int.ofNat n then k else Int.ofNat n
include hg in
set_option maxHeartbeats 1000000 in
theorem law_walk {G : Cx} (hm : MethOK Tryz.prog G) (hmix : Tryz.prog.follows .mixedOrders = true) {call : Sy.Call} (hcall : CallOK Tryz.prog G call) (x y : Int)
    (clives : ∀ H nx, call 4 [] H nx = some (.bool true, H, nx)) (cpick : ∀ (x : Int) (n : Nat) H nx, 0 < n → n < 100000 → call 5 [.int .i64 x, .int .i64 (.ofNat n)] H nx = some (.int .i64 (.ofNat (pickN x n)), H, nx))
    (ckey : ∀ (i : Nat) H nx, call 8 [.int .i64 (.ofNat i)] H nx = some (.str (keyN i), H, nx)) (cneed : ∀ H nx, call 9 [.str [121], .int .i64 5] H nx = some (.agg nV, H, nx)) (cview : ∀ H nx, call 10 [.str [97], .int .i64 10] H nx = some (.agg (.str [97] :: vR), H, nx))
    (cnew : ∀ H nx, call 6 [] H nx = newF [] H nx) (cscore : ∀ a H nx, call 7 a H nx = scoreF gS a H nx) (cheld : ∀ a H nx, call 11 a H nx = heldF a H nx) (cknown : ∀ a H nx, call 12 a H nx = knownF a H nx) :
    Sy.Enters Tryz.prog 3 ∧ ∃ H' nx', 0 ≤ nx' ∧ FnT Tryz.prog G 3 [.int .i64 x, .int .i64 y] [] 0 (.bool true) H' nx' := by
  refine fn_some (args := [.int .i64 x, .int .i64 y]) fx3 hm hmix hcall rfl ?_
  have g0 : (slots 0 (pad x3.nt [AV.int .i64 x, .int .i64 y])).get 0 = some (.int .i64 x) := rfl
  have g1 : (slots 0 (pad x3.nt [AV.int .i64 x, .int .i64 y])).get 1 = some (.int .i64 y) := rfl
  generalize slots 0 (pad x3.nt [AV.int .i64 x, .int .i64 y]) = fr0 at g0 g1
  clear hm hmix hcall
  simp only [x3]
  have hp1 := fun H nx => cpick x 5000 H nx (by omega) (by omega)
  have hp2 := fun H nx => cpick y 4001 H nx (by omega) (by omega)
  have hn := pickN_lt x (n := 5000) (by omega)
  have ha := pickN_lt y (n := 4001) (by omega)
  generalize pickN x 5000 = n at hp1 hn
  generalize pickN y 4001 = a at hp2 ha
  clear cpick
  have ha' : a ≤ 4000 := by omega
  have hp1' : ∀ H nx, call 5 [.int .i64 x, .int .i64 5000] H nx = some (.int .i64 (.ofNat n), H, nx) := hp1
  have hp2' : ∀ H nx, call 5 [.int .i64 y, .int .i64 4001] H nx = some (.int .i64 (.ofNat a), H, nx) := hp2
  obtain ⟨H1, n1, hR⟩ := rep_new [] 0
  have hne := (cnew [] 0).trans n1
  clear hp1 hp2 cnew n1
  iterate 1 all_goals (first | with_reducible refine stp ?_ | with_reducible refine B_o rfl ?_ | with_reducible refine A_condT ?_ | with_reducible refine A_condF ?_ | with_reducible refine A_cond2 (fun hc => ?_) (fun hc => ?_) | with_reducible refine A_E ?_ | skip)
  all_goals (with_reducible refine C_reg ?_)
  all_goals (with_reducible refine A_mov ?_)
  all_goals refine O_nil ?_
  iterate 20 all_goals (first | with_reducible refine stp ?_ | with_reducible refine B_o rfl ?_ | with_reducible refine A_condT ?_ | with_reducible refine A_condF ?_ | with_reducible refine A_cond2 (fun hc => ?_) (fun hc => ?_) | with_reducible refine A_E ?_ | skip)
  all_goals (with_reducible refine C_reg ?_)
  all_goals (refine A_call ?_)
  all_goals (with_reducible refine A_un ?_)
  all_goals refine O_nil ?_
  iterate 20 all_goals (first | with_reducible refine stp ?_ | with_reducible refine B_o rfl ?_ | with_reducible refine A_condT ?_ | with_reducible refine A_condF ?_ | with_reducible refine A_cond2 (fun hc => ?_) (fun hc => ?_) | with_reducible refine A_E ?_ | skip)
  all_goals (with_reducible refine C_reg ?_)
  all_goals (with_reducible refine A_mov ?_)
  all_goals (refine A_call ?_)
  all_goals (with_reducible refine A_mov ?_)
  all_goals refine O_nil ?_
  iterate 20 all_goals (first | with_reducible refine stp ?_ | with_reducible refine B_o rfl ?_ | with_reducible refine A_condT ?_ | with_reducible refine A_condF ?_ | with_reducible refine A_cond2 (fun hc => ?_) (fun hc => ?_) | with_reducible refine A_E ?_ | skip)
  all_goals (with_reducible refine C_reg ?_)
  all_goals (with_reducible refine A_mov ?_)
  all_goals (refine A_call ?_)
  all_goals (with_reducible refine A_mov ?_)
  all_goals refine O_nil ?_
  iterate 20 all_goals (first | with_reducible refine stp ?_ | with_reducible refine B_o rfl ?_ | with_reducible refine A_condT ?_ | with_reducible refine A_condF ?_ | with_reducible refine A_cond2 (fun hc => ?_) (fun hc => ?_) | with_reducible refine A_E ?_ | skip)
  all_goals (with_reducible refine C_reg ?_)
  all_goals (refine A_call ?_)
  all_goals (with_reducible refine A_mov ?_)
  all_goals refine O_nil ?_
  iterate 20 all_goals (first | with_reducible refine stp ?_ | with_reducible refine B_o rfl ?_ | with_reducible refine A_condT ?_ | with_reducible refine A_condF ?_ | with_reducible refine A_cond2 (fun hc => ?_) (fun hc => ?_) | with_reducible refine A_E ?_ | skip)
  all_goals (with_reducible refine C_reg ?_)
  all_goals (with_reducible refine A_mov ?_)
  all_goals refine O_nil ?_
  iterate 3 all_goals (first | with_reducible refine stp ?_ | with_reducible refine B_o rfl ?_ | with_reducible refine A_condT ?_ | with_reducible refine A_condF ?_ | with_reducible refine A_cond2 (fun hc => ?_) (fun hc => ?_) | with_reducible refine A_E ?_ | skip)
  clear g0 g1 hp1' hp2' hne clives
  refine C_loop (fun m fr H nx => ∃ i, i ≤ n ∧ m = n - i ∧ fr.get 0 = some (.int .i64 (.ofNat n)) ∧ fr.get 1 = some (.int .i64 (.ofNat a)) ∧ fr.get 5 = some (.ptr 2 0) ∧ fr.get 6 = some (.int .i64 (.ofNat i)) ∧ Holds 2 0 1 (st a i) H nx) n ⟨0, Nat.zero_le _, rfl, ?_, ?_, ?_, ?_, ⟨[], hR, rfl⟩⟩ ?_
  · simp only [putd_some, Fr.get_put, reduceIte, Nat.reduceEqDiff]
  · simp only [putd_some, Fr.get_put, reduceIte, Nat.reduceEqDiff]
  · simp only [putd_some, Fr.get_put, reduceIte, Nat.reduceEqDiff]
  · simp only [putd_some, Fr.get_put, reduceIte, Nat.reduceEqDiff]; rfl
  clear hR
  rintro m fr H nx ⟨i, hi, rfl, g0, g1, g5, g6, hH⟩
  have hl16 : ∀ x ∈ st a i, x < 65536 := fun x hx => by have := st_lt ha' i x hx; omega
  by_cases hlt : i < n
  · have hltd : decide (Int.ofNat i < Int.ofNat n) = true := by simp only [decide_eq_true_eq, Int.ofNat_eq_natCast]; omega
    have hsl := st_len ha' i
    obtain ⟨H2, n2, s1, hH2⟩ := hH.put hg (i := i) (by omega) hl16 (fun hm => by have := st_lt ha' i i hm; omega) (by rw [hsl]; split <;> omega)
    have hs := (cscore _ _ _).trans s1
    have hki := ckey i
    have hpl : (putL (st a i) i).length = if 4096 < i + 1 then 4096 else i + 1 := by
      unfold putL
      rw [List.length_append]
      by_cases h : (st a i).length < 4096
      · rw [if_pos h, hsl]
        rw [hsl] at h
        simp only [List.length_cons, List.length_nil]
        split at h <;> split <;> split <;> omega
      · rw [if_neg h, List.length_tail, hsl]
        rw [hsl] at h
        simp only [List.length_cons, List.length_nil]
        split at h <;> split <;> split <;> omega
    have hhe := (cheld _ _ _).trans (hH2.held (by rw [hpl]; split <;> omega))
    have hmax : i + 1 ≤ 9223372036854775807 := by omega
    have hneq : xbin .neq (.int .i64 (.ofNat (putL (st a i) i).length)) (.int .i64 (if (4096 : Int) < Int.ofNat (i + 1) then 4096 else Int.ofNat (i + 1))) = some (.bool false) := by
      rw [hpl]
      by_cases h : 4096 < i + 1
      · rw [if_pos h, if_pos (by simp only [Int.ofNat_eq_natCast]; omega)]; rfl
      · rw [if_neg h, if_neg (by simp only [Int.ofNat_eq_natCast]; omega)]
        simp only [xbin, ksame, xcmp, bne_self_eq_false]
    generalize hgl : (putL (st a i) i).length = ln at hhe hneq
    clear hgl hpl hsl s1 hl16
    unfold x3_l3
    iterate 2 all_goals (first | with_reducible refine stp ?_ | with_reducible refine B_o rfl ?_ | with_reducible refine A_condT ?_ | with_reducible refine A_condF ?_ | with_reducible refine A_cond2 (fun hc => ?_) (fun hc => ?_) | with_reducible refine A_E ?_ | skip)
    all_goals (with_reducible refine C_reg ?_)
    all_goals (with_reducible refine A_mov ?_)
    all_goals (with_reducible refine A_mov ?_)
    all_goals (refine A_bin ?_)
    all_goals refine O_nil ?_
    iterate 20 all_goals (first | with_reducible refine stp ?_ | with_reducible refine B_o rfl ?_ | with_reducible refine A_condT ?_ | with_reducible refine A_condF ?_ | with_reducible refine A_cond2 (fun hc => ?_) (fun hc => ?_) | with_reducible refine A_E ?_ | skip)
    all_goals (unfold x3_r0)
    all_goals (with_reducible refine C_reg ?_)
    all_goals (with_reducible refine A_mov ?_)
    all_goals (with_reducible refine A_mov ?_)
    all_goals (refine A_call ?_)
    all_goals (refine A_call ?_)
    all_goals (refine A_call ?_)
    all_goals (refine A_call ?_)
    all_goals (with_reducible refine A_mov ?_)
    all_goals (with_reducible refine A_ext ?_)
    all_goals (with_reducible refine A_ext ?_)
    all_goals (with_reducible refine A_mov ?_)
    all_goals (with_reducible refine A_mov ?_)
    all_goals refine O_nil ?_
    iterate 6 all_goals (first | with_reducible refine stp ?_ | with_reducible refine B_o rfl ?_ | with_reducible refine A_condT ?_ | with_reducible refine A_condF ?_ | with_reducible refine A_cond2 (fun hc => ?_) (fun hc => ?_) | with_reducible refine A_E ?_ | skip)
    all_goals (unfold x3_r1)
    all_goals (with_reducible refine C_reg ?_)
    all_goals (with_reducible refine A_mov ?_)
    all_goals (refine A_bin ?_)
    all_goals (with_reducible refine A_mov ?_)
    all_goals (first | with_reducible refine A_gdF ?_ | with_reducible refine A_gdU ?_ | (with_reducible refine A_gdT ?_; (with_reducible refine A_mov ?_)) | (with_reducible refine A_gd2f (fun hc => ?_) (fun hc => ?_); (with_reducible refine A_mov ?_)))
    all_goals (first | with_reducible refine A_gdF ?_ | with_reducible refine A_gdU ?_ | (with_reducible refine A_gdT ?_; (refine A_call ?_)) | (with_reducible refine A_gd2f (fun hc => ?_) (fun hc => ?_); (refine A_call ?_)))
    all_goals (first | with_reducible refine A_gdF ?_ | with_reducible refine A_gdU ?_ | (with_reducible refine A_gdT ?_; (with_reducible refine A_mov ?_)) | (with_reducible refine A_gd2f (fun hc => ?_) (fun hc => ?_); (with_reducible refine A_mov ?_)))
    all_goals (first | with_reducible refine A_gdF ?_ | with_reducible refine A_gdU ?_ | (with_reducible refine A_gdT ?_; (refine A_bin ?_)) | (with_reducible refine A_gd2f (fun hc => ?_) (fun hc => ?_); (refine A_bin ?_)))
    all_goals (first | with_reducible refine A_gdF ?_ | with_reducible refine A_gdU ?_ | (with_reducible refine A_gdT ?_; (with_reducible refine A_min ?_)) | (with_reducible refine A_gd2f (fun hc => ?_) (fun hc => ?_); (with_reducible refine A_min ?_)))
    all_goals (first | with_reducible refine A_gdF ?_ | with_reducible refine A_gdU ?_ | (with_reducible refine A_gdT ?_; (refine A_bin ?_)) | (with_reducible refine A_gd2f (fun hc => ?_) (fun hc => ?_); (refine A_bin ?_)))
    all_goals (first | with_reducible refine A_pickT ?_ | with_reducible refine A_pickF ?_ | with_reducible refine A_pick2 (fun hc => ?_) (fun hc => ?_))
    all_goals refine O_nil ?_
    iterate 6 all_goals (first | with_reducible refine stp ?_ | with_reducible refine B_o rfl ?_ | with_reducible refine A_condT ?_ | with_reducible refine A_condF ?_ | with_reducible refine A_cond2 (fun hc => ?_) (fun hc => ?_) | with_reducible refine A_E ?_ | skip)
    have hA := ckey a
    by_cases h40 : i = 4000
    · have h4 : ((Int.ofNat i) == 4000) = true := by rw [h40]; rfl
      have hmem : a ∈ putL (st a i) i := by
        rw [h40, put_4000]
        exact List.mem_range.2 (by omega)
      obtain ⟨H3, n3, s3, hH3⟩ := hH2.touch hmem
      have hs3 := (cscore _ _ _).trans s3
      have hst : st a (i + 1) = touchL (putL (st a i) i) a := by
        rw [st, if_pos h40]
      clear h40 s3
      all_goals (with_reducible refine C_reg ?_)
      all_goals (with_reducible refine A_mov ?_)
      all_goals (refine A_bin ?_)
      all_goals refine O_nil ?_
      iterate 6 all_goals (first | with_reducible refine stp ?_ | with_reducible refine B_o rfl ?_ | with_reducible refine A_condT ?_ | with_reducible refine A_condF ?_ | with_reducible refine A_cond2 (fun hc => ?_) (fun hc => ?_) | with_reducible refine A_E ?_ | skip)
      all_goals (unfold x3_r2)
      all_goals (with_reducible refine C_reg ?_)
      all_goals (with_reducible refine A_mov ?_)
      all_goals (with_reducible refine A_mov ?_)
      all_goals (refine A_call ?_)
      all_goals (refine A_call ?_)
      all_goals (refine A_call ?_)
      all_goals (refine A_call ?_)
      all_goals refine O_nil ?_
      iterate 6 all_goals (first | with_reducible refine stp ?_ | with_reducible refine B_o rfl ?_ | with_reducible refine A_condT ?_ | with_reducible refine A_condF ?_ | with_reducible refine A_cond2 (fun hc => ?_) (fun hc => ?_) | with_reducible refine A_E ?_ | skip)
      all_goals (with_reducible refine C_reg ?_)
      all_goals (with_reducible refine A_mov ?_)
      all_goals (refine A_bin ?_)
      all_goals (with_reducible refine A_mov ?_)
      all_goals refine O_nil ?_
      iterate 3 all_goals (first | with_reducible refine stp ?_ | with_reducible refine B_o rfl ?_ | with_reducible refine A_condT ?_ | with_reducible refine A_condF ?_ | with_reducible refine A_cond2 (fun hc => ?_) (fun hc => ?_) | with_reducible refine A_E ?_ | skip)
      refine ⟨_, ?_, i + 1, by omega, rfl, ?_, ?_, ?_, ?_, ?_⟩
      · omega
      · simp only [putd_some, Fr.get_put, reduceIte, Nat.reduceEqDiff, g0]
      · simp only [putd_some, Fr.get_put, reduceIte, Nat.reduceEqDiff, g1]
      · simp only [putd_some, Fr.get_put, reduceIte, Nat.reduceEqDiff, g5]
      · simp only [putd_some, Fr.get_put, reduceIte, Nat.reduceEqDiff]
      · rw [hst]; exact hH3
    · have h4 : ((Int.ofNat i) == 4000) = false := by
        rw [beq_eq_false_iff_ne, Int.ofNat_eq_natCast]; omega
      have hst : st a (i + 1) = putL (st a i) i := by
        rw [st, if_neg h40]
      clear h40
      all_goals (with_reducible refine C_reg ?_)
      all_goals (with_reducible refine A_mov ?_)
      all_goals (refine A_bin ?_)
      all_goals refine O_nil ?_
      iterate 6 all_goals (first | with_reducible refine stp ?_ | with_reducible refine B_o rfl ?_ | with_reducible refine A_condT ?_ | with_reducible refine A_condF ?_ | with_reducible refine A_cond2 (fun hc => ?_) (fun hc => ?_) | with_reducible refine A_E ?_ | skip)
      all_goals (with_reducible refine C_reg ?_)
      all_goals (with_reducible refine A_mov ?_)
      all_goals (refine A_bin ?_)
      all_goals (with_reducible refine A_mov ?_)
      all_goals refine O_nil ?_
      iterate 3 all_goals (first | with_reducible refine stp ?_ | with_reducible refine B_o rfl ?_ | with_reducible refine A_condT ?_ | with_reducible refine A_condF ?_ | with_reducible refine A_cond2 (fun hc => ?_) (fun hc => ?_) | with_reducible refine A_E ?_ | skip)
      refine ⟨_, ?_, i + 1, by omega, rfl, ?_, ?_, ?_, ?_, ?_⟩
      · omega
      · simp only [putd_some, Fr.get_put, reduceIte, Nat.reduceEqDiff, g0]
      · simp only [putd_some, Fr.get_put, reduceIte, Nat.reduceEqDiff, g1]
      · simp only [putd_some, Fr.get_put, reduceIte, Nat.reduceEqDiff, g5]
      · simp only [putd_some, Fr.get_put, reduceIte, Nat.reduceEqDiff]
      · rw [hst]; exact hH2
  · have hin : i = n := by omega
    subst hin
    have hltd : decide (Int.ofNat i < Int.ofNat i) = false := by simp only [decide_eq_false_iff_not, Int.ofNat_eq_natCast]; omega
    unfold x3_l3
    iterate 2 all_goals (first | with_reducible refine stp ?_ | with_reducible refine B_o rfl ?_ | with_reducible refine A_condT ?_ | with_reducible refine A_condF ?_ | with_reducible refine A_cond2 (fun hc => ?_) (fun hc => ?_) | with_reducible refine A_E ?_ | skip)
    all_goals (with_reducible refine C_reg ?_)
    all_goals (with_reducible refine A_mov ?_)
    all_goals (with_reducible refine A_mov ?_)
    all_goals (refine A_bin ?_)
    all_goals refine O_nil ?_
    iterate 20 all_goals (first | with_reducible refine stp ?_ | with_reducible refine B_o rfl ?_ | with_reducible refine A_condT ?_ | with_reducible refine A_condF ?_ | with_reducible refine A_cond2 (fun hc => ?_) (fun hc => ?_) | with_reducible refine A_E ?_ | skip)
    have hk0 : ∀ H nx, call 8 [.int .i64 0] H nx = some (.str (keyN 0), H, nx) := ckey 0
    have hka := ckey a
    by_cases hi0 : i = 0
    · have f1 : decide (Int.ofNat i > 0) = false := by simp only [decide_eq_false_iff_not, Int.ofNat_eq_natCast]; omega
      have f2 : decide (Int.ofNat a < Int.ofNat i) = false := by simp only [decide_eq_false_iff_not, Int.ofNat_eq_natCast]; omega
      have f3 : decide (Int.ofNat i ≤ 4096) = true := by simp only [decide_eq_true_eq, Int.ofNat_eq_natCast]; omega
      clear hi0
      all_goals (unfold x3_r4)
      all_goals (with_reducible refine C_reg ?_)
      all_goals (with_reducible refine A_mov ?_)
      all_goals (refine A_bin ?_)
      all_goals (with_reducible refine A_mov ?_)
      all_goals (first | with_reducible refine A_gdN ?_ | with_reducible refine A_gdU ?_ | (with_reducible refine A_gdT ?_; (with_reducible refine A_mov ?_)) | (with_reducible refine A_gd2t (fun hc => ?_) (fun hc => ?_); (with_reducible refine A_mov ?_)))
      all_goals (first | with_reducible refine A_gdN ?_ | with_reducible refine A_gdU ?_ | (with_reducible refine A_gdT ?_; (with_reducible refine A_mov ?_)) | (with_reducible refine A_gd2t (fun hc => ?_) (fun hc => ?_); (with_reducible refine A_mov ?_)))
      all_goals (first | with_reducible refine A_gdN ?_ | with_reducible refine A_gdU ?_ | (with_reducible refine A_gdT ?_; (refine A_bin ?_)) | (with_reducible refine A_gd2t (fun hc => ?_) (fun hc => ?_); (refine A_bin ?_)))
      all_goals (first | with_reducible refine A_gdN ?_ | with_reducible refine A_gdU ?_ | (with_reducible refine A_gdT ?_; (refine A_call ?_)) | (with_reducible refine A_gd2t (fun hc => ?_) (fun hc => ?_); (refine A_call ?_)))
      all_goals (first | with_reducible refine A_gdN ?_ | with_reducible refine A_gdU ?_ | (with_reducible refine A_gdT ?_; (refine A_call ?_)) | (with_reducible refine A_gd2t (fun hc => ?_) (fun hc => ?_); (refine A_call ?_)))
      all_goals (first | with_reducible refine A_gdN ?_ | with_reducible refine A_gdU ?_ | (with_reducible refine A_gdT ?_; (with_reducible refine A_un ?_)) | (with_reducible refine A_gd2t (fun hc => ?_) (fun hc => ?_); (with_reducible refine A_un ?_)))
      all_goals (first | with_reducible refine A_pickT ?_ | with_reducible refine A_pickF ?_ | with_reducible refine A_pick2 (fun hc => ?_) (fun hc => ?_))
      all_goals (with_reducible refine A_mov ?_)
      all_goals (first | with_reducible refine A_gdF ?_ | with_reducible refine A_gdU ?_ | (with_reducible refine A_gdT ?_; (with_reducible refine A_mov ?_)) | (with_reducible refine A_gd2f (fun hc => ?_) (fun hc => ?_); (with_reducible refine A_mov ?_)))
      all_goals (first | with_reducible refine A_gdF ?_ | with_reducible refine A_gdU ?_ | (with_reducible refine A_gdT ?_; (with_reducible refine A_mov ?_)) | (with_reducible refine A_gd2f (fun hc => ?_) (fun hc => ?_); (with_reducible refine A_mov ?_)))
      all_goals (first | with_reducible refine A_gdF ?_ | with_reducible refine A_gdU ?_ | (with_reducible refine A_gdT ?_; (refine A_bin ?_)) | (with_reducible refine A_gd2f (fun hc => ?_) (fun hc => ?_); (refine A_bin ?_)))
      all_goals (first | with_reducible refine A_gdF ?_ | with_reducible refine A_gdU ?_ | (with_reducible refine A_gdT ?_; (with_reducible refine A_mov ?_)) | (with_reducible refine A_gd2f (fun hc => ?_) (fun hc => ?_); (with_reducible refine A_mov ?_)))
      all_goals (first | with_reducible refine A_gdN ?_ | with_reducible refine A_gdU ?_ | (with_reducible refine A_gdT ?_; (with_reducible refine A_mov ?_)) | (with_reducible refine A_gd2t (fun hc => ?_) (fun hc => ?_); (with_reducible refine A_mov ?_)))
      all_goals (first | with_reducible refine A_gdN ?_ | with_reducible refine A_gdU ?_ | (with_reducible refine A_gdT ?_; (with_reducible refine A_mov ?_)) | (with_reducible refine A_gd2t (fun hc => ?_) (fun hc => ?_); (with_reducible refine A_mov ?_)))
      all_goals (first | with_reducible refine A_gdN ?_ | with_reducible refine A_gdU ?_ | (with_reducible refine A_gdT ?_; (refine A_call ?_)) | (with_reducible refine A_gd2t (fun hc => ?_) (fun hc => ?_); (refine A_call ?_)))
      all_goals (first | with_reducible refine A_gdN ?_ | with_reducible refine A_gdU ?_ | (with_reducible refine A_gdT ?_; (refine A_call ?_)) | (with_reducible refine A_gd2t (fun hc => ?_) (fun hc => ?_); (refine A_call ?_)))
      all_goals (first | with_reducible refine A_gdN ?_ | with_reducible refine A_gdU ?_ | (with_reducible refine A_gdT ?_; (with_reducible refine A_un ?_)) | (with_reducible refine A_gd2t (fun hc => ?_) (fun hc => ?_); (with_reducible refine A_un ?_)))
      all_goals (first | with_reducible refine A_gdF ?_ | with_reducible refine A_gdU ?_ | (with_reducible refine A_gdT ?_; (first | with_reducible refine A_pickT ?_ | with_reducible refine A_pickF ?_ | with_reducible refine A_pick2 (fun hc => ?_) (fun hc => ?_))) | (with_reducible refine A_gd2f (fun hc => ?_) (fun hc => ?_); (first | with_reducible refine A_pickT ?_ | with_reducible refine A_pickF ?_ | with_reducible refine A_pick2 (fun hc => ?_) (fun hc => ?_))))
      all_goals (first | with_reducible refine A_pickT ?_ | with_reducible refine A_pickF ?_ | with_reducible refine A_pick2 (fun hc => ?_) (fun hc => ?_))
      all_goals refine O_nil ?_
      iterate 6 all_goals (first | with_reducible refine stp ?_ | with_reducible refine B_o rfl ?_ | with_reducible refine A_condT ?_ | with_reducible refine A_condF ?_ | with_reducible refine A_cond2 (fun hc => ?_) (fun hc => ?_) | with_reducible refine A_E ?_ | skip)
      all_goals (unfold x3_r5)
      all_goals (with_reducible refine C_reg ?_)
      all_goals (with_reducible refine A_mov ?_)
      all_goals (refine A_bin ?_)
      all_goals (with_reducible refine A_mov ?_)
      all_goals (first | with_reducible refine A_gdF ?_ | with_reducible refine A_gdU ?_ | (with_reducible refine A_gdT ?_; (with_reducible refine A_mov ?_)) | (with_reducible refine A_gd2f (fun hc => ?_) (fun hc => ?_); (with_reducible refine A_mov ?_)))
      all_goals (first | with_reducible refine A_gdF ?_ | with_reducible refine A_gdU ?_ | (with_reducible refine A_gdT ?_; (refine A_bin ?_)) | (with_reducible refine A_gd2f (fun hc => ?_) (fun hc => ?_); (refine A_bin ?_)))
      all_goals (first | with_reducible refine A_pickT ?_ | with_reducible refine A_pickF ?_ | with_reducible refine A_pick2 (fun hc => ?_) (fun hc => ?_))
      all_goals (with_reducible refine A_mov ?_)
      all_goals (first | with_reducible refine A_gdF ?_ | with_reducible refine A_gdU ?_ | (with_reducible refine A_gdT ?_; (with_reducible refine A_mov ?_)) | (with_reducible refine A_gd2f (fun hc => ?_) (fun hc => ?_); (with_reducible refine A_mov ?_)))
      all_goals (first | with_reducible refine A_gdF ?_ | with_reducible refine A_gdU ?_ | (with_reducible refine A_gdT ?_; (refine A_call ?_)) | (with_reducible refine A_gd2f (fun hc => ?_) (fun hc => ?_); (refine A_call ?_)))
      all_goals (first | with_reducible refine A_gdF ?_ | with_reducible refine A_gdU ?_ | (with_reducible refine A_gdT ?_; (refine A_call ?_)) | (with_reducible refine A_gd2f (fun hc => ?_) (fun hc => ?_); (refine A_call ?_)))
      all_goals (first | with_reducible refine A_gdF ?_ | with_reducible refine A_gdU ?_ | (with_reducible refine A_gdT ?_; (with_reducible refine A_un ?_)) | (with_reducible refine A_gd2f (fun hc => ?_) (fun hc => ?_); (with_reducible refine A_un ?_)))
      all_goals (first | with_reducible refine A_pickT ?_ | with_reducible refine A_pickF ?_ | with_reducible refine A_pick2 (fun hc => ?_) (fun hc => ?_))
      all_goals (with_reducible refine A_mov ?_)
      all_goals refine O_nil ?_
      iterate 6 all_goals (first | with_reducible refine stp ?_ | with_reducible refine B_o rfl ?_ | with_reducible refine A_condT ?_ | with_reducible refine A_condF ?_ | with_reducible refine A_cond2 (fun hc => ?_) (fun hc => ?_) | with_reducible refine A_E ?_ | skip)
      exact ⟨rfl⟩
    · have f1 : decide (Int.ofNat i > 0) = true := by simp only [decide_eq_true_eq, Int.ofNat_eq_natCast]; omega
      have f0 : xbin .sub (.int .i64 (.ofNat i)) (.int .i64 1) = some (.int .i64 (.ofNat (i - 1))) := by
        have e : (Int.ofNat i) - 1 = .ofNat (i - 1) := by simp only [Int.ofNat_eq_natCast]; omega
        have := wrap64 (n := .ofNat (i - 1)) (by simp only [Int.ofNat_eq_natCast]; omega) (by simp only [Int.ofNat_eq_natCast]; omega)
        simp only [xbin, ksame, e, this]
      have hki := ckey (i - 1)
      have hlast : i - 1 ∈ st a i := by
        have := st_last (a := a) (i - 1)
        rwa [show i - 1 + 1 = i by omega] at this
      obtain ⟨o1, k1, hH1⟩ := hH.known hl16 (i := i - 1) (by omega)
      rw [decide_eq_true hlast] at k1
      have c1 := (cknown _ _ _).trans k1
      clear hlast k1
      by_cases hai : a < i
      · have f2 : decide (Int.ofNat a < Int.ofNat i) = true := by simp only [decide_eq_true_eq, Int.ofNat_eq_natCast]; omega
        obtain ⟨o2, k2, hH2⟩ := hH1.known hl16 (i := a) (by omega)
        rw [decide_eq_true (st_again ha' hai (by omega))] at k2
        have c2 := (cknown _ _ _).trans k2
        clear k2
        by_cases hle : i ≤ 4096
        · have f3 : decide (Int.ofNat i ≤ 4096) = true := by simp only [decide_eq_true_eq, Int.ofNat_eq_natCast]; omega
          all_goals (unfold x3_r4)
          all_goals (with_reducible refine C_reg ?_)
          all_goals (with_reducible refine A_mov ?_)
          all_goals (refine A_bin ?_)
          all_goals (with_reducible refine A_mov ?_)
          all_goals (first | with_reducible refine A_gdN ?_ | with_reducible refine A_gdU ?_ | (with_reducible refine A_gdT ?_; (with_reducible refine A_mov ?_)) | (with_reducible refine A_gd2t (fun hc => ?_) (fun hc => ?_); (with_reducible refine A_mov ?_)))
          all_goals (first | with_reducible refine A_gdN ?_ | with_reducible refine A_gdU ?_ | (with_reducible refine A_gdT ?_; (with_reducible refine A_mov ?_)) | (with_reducible refine A_gd2t (fun hc => ?_) (fun hc => ?_); (with_reducible refine A_mov ?_)))
          all_goals (first | with_reducible refine A_gdN ?_ | with_reducible refine A_gdU ?_ | (with_reducible refine A_gdT ?_; (refine A_bin ?_)) | (with_reducible refine A_gd2t (fun hc => ?_) (fun hc => ?_); (refine A_bin ?_)))
          all_goals (first | with_reducible refine A_gdN ?_ | with_reducible refine A_gdU ?_ | (with_reducible refine A_gdT ?_; (refine A_call ?_)) | (with_reducible refine A_gd2t (fun hc => ?_) (fun hc => ?_); (refine A_call ?_)))
          all_goals (first | with_reducible refine A_gdN ?_ | with_reducible refine A_gdU ?_ | (with_reducible refine A_gdT ?_; (refine A_call ?_)) | (with_reducible refine A_gd2t (fun hc => ?_) (fun hc => ?_); (refine A_call ?_)))
          all_goals (first | with_reducible refine A_gdN ?_ | with_reducible refine A_gdU ?_ | (with_reducible refine A_gdT ?_; (with_reducible refine A_un ?_)) | (with_reducible refine A_gd2t (fun hc => ?_) (fun hc => ?_); (with_reducible refine A_un ?_)))
          all_goals (first | with_reducible refine A_pickT ?_ | with_reducible refine A_pickF ?_ | with_reducible refine A_pick2 (fun hc => ?_) (fun hc => ?_))
          all_goals (with_reducible refine A_mov ?_)
          all_goals (first | with_reducible refine A_gdF ?_ | with_reducible refine A_gdU ?_ | (with_reducible refine A_gdT ?_; (with_reducible refine A_mov ?_)) | (with_reducible refine A_gd2f (fun hc => ?_) (fun hc => ?_); (with_reducible refine A_mov ?_)))
          all_goals (first | with_reducible refine A_gdF ?_ | with_reducible refine A_gdU ?_ | (with_reducible refine A_gdT ?_; (with_reducible refine A_mov ?_)) | (with_reducible refine A_gd2f (fun hc => ?_) (fun hc => ?_); (with_reducible refine A_mov ?_)))
          all_goals (first | with_reducible refine A_gdF ?_ | with_reducible refine A_gdU ?_ | (with_reducible refine A_gdT ?_; (refine A_bin ?_)) | (with_reducible refine A_gd2f (fun hc => ?_) (fun hc => ?_); (refine A_bin ?_)))
          all_goals (first | with_reducible refine A_gdF ?_ | with_reducible refine A_gdU ?_ | (with_reducible refine A_gdT ?_; (with_reducible refine A_mov ?_)) | (with_reducible refine A_gd2f (fun hc => ?_) (fun hc => ?_); (with_reducible refine A_mov ?_)))
          all_goals (first | with_reducible refine A_gdN ?_ | with_reducible refine A_gdU ?_ | (with_reducible refine A_gdT ?_; (with_reducible refine A_mov ?_)) | (with_reducible refine A_gd2t (fun hc => ?_) (fun hc => ?_); (with_reducible refine A_mov ?_)))
          all_goals (first | with_reducible refine A_gdN ?_ | with_reducible refine A_gdU ?_ | (with_reducible refine A_gdT ?_; (with_reducible refine A_mov ?_)) | (with_reducible refine A_gd2t (fun hc => ?_) (fun hc => ?_); (with_reducible refine A_mov ?_)))
          all_goals (first | with_reducible refine A_gdN ?_ | with_reducible refine A_gdU ?_ | (with_reducible refine A_gdT ?_; (refine A_call ?_)) | (with_reducible refine A_gd2t (fun hc => ?_) (fun hc => ?_); (refine A_call ?_)))
          all_goals (first | with_reducible refine A_gdN ?_ | with_reducible refine A_gdU ?_ | (with_reducible refine A_gdT ?_; (refine A_call ?_)) | (with_reducible refine A_gd2t (fun hc => ?_) (fun hc => ?_); (refine A_call ?_)))
          all_goals (first | with_reducible refine A_gdN ?_ | with_reducible refine A_gdU ?_ | (with_reducible refine A_gdT ?_; (with_reducible refine A_un ?_)) | (with_reducible refine A_gd2t (fun hc => ?_) (fun hc => ?_); (with_reducible refine A_un ?_)))
          all_goals (first | with_reducible refine A_gdF ?_ | with_reducible refine A_gdU ?_ | (with_reducible refine A_gdT ?_; (first | with_reducible refine A_pickT ?_ | with_reducible refine A_pickF ?_ | with_reducible refine A_pick2 (fun hc => ?_) (fun hc => ?_))) | (with_reducible refine A_gd2f (fun hc => ?_) (fun hc => ?_); (first | with_reducible refine A_pickT ?_ | with_reducible refine A_pickF ?_ | with_reducible refine A_pick2 (fun hc => ?_) (fun hc => ?_))))
          all_goals (first | with_reducible refine A_pickT ?_ | with_reducible refine A_pickF ?_ | with_reducible refine A_pick2 (fun hc => ?_) (fun hc => ?_))
          all_goals refine O_nil ?_
          iterate 6 all_goals (first | with_reducible refine stp ?_ | with_reducible refine B_o rfl ?_ | with_reducible refine A_condT ?_ | with_reducible refine A_condF ?_ | with_reducible refine A_cond2 (fun hc => ?_) (fun hc => ?_) | with_reducible refine A_E ?_ | skip)
          all_goals (unfold x3_r5)
          all_goals (with_reducible refine C_reg ?_)
          all_goals (with_reducible refine A_mov ?_)
          all_goals (refine A_bin ?_)
          all_goals (with_reducible refine A_mov ?_)
          all_goals (first | with_reducible refine A_gdF ?_ | with_reducible refine A_gdU ?_ | (with_reducible refine A_gdT ?_; (with_reducible refine A_mov ?_)) | (with_reducible refine A_gd2f (fun hc => ?_) (fun hc => ?_); (with_reducible refine A_mov ?_)))
          all_goals (first | with_reducible refine A_gdF ?_ | with_reducible refine A_gdU ?_ | (with_reducible refine A_gdT ?_; (refine A_bin ?_)) | (with_reducible refine A_gd2f (fun hc => ?_) (fun hc => ?_); (refine A_bin ?_)))
          all_goals (first | with_reducible refine A_pickT ?_ | with_reducible refine A_pickF ?_ | with_reducible refine A_pick2 (fun hc => ?_) (fun hc => ?_))
          all_goals (with_reducible refine A_mov ?_)
          all_goals (first | with_reducible refine A_gdF ?_ | with_reducible refine A_gdU ?_ | (with_reducible refine A_gdT ?_; (with_reducible refine A_mov ?_)) | (with_reducible refine A_gd2f (fun hc => ?_) (fun hc => ?_); (with_reducible refine A_mov ?_)))
          all_goals (first | with_reducible refine A_gdF ?_ | with_reducible refine A_gdU ?_ | (with_reducible refine A_gdT ?_; (refine A_call ?_)) | (with_reducible refine A_gd2f (fun hc => ?_) (fun hc => ?_); (refine A_call ?_)))
          all_goals (first | with_reducible refine A_gdF ?_ | with_reducible refine A_gdU ?_ | (with_reducible refine A_gdT ?_; (refine A_call ?_)) | (with_reducible refine A_gd2f (fun hc => ?_) (fun hc => ?_); (refine A_call ?_)))
          all_goals (first | with_reducible refine A_gdF ?_ | with_reducible refine A_gdU ?_ | (with_reducible refine A_gdT ?_; (with_reducible refine A_un ?_)) | (with_reducible refine A_gd2f (fun hc => ?_) (fun hc => ?_); (with_reducible refine A_un ?_)))
          all_goals (first | with_reducible refine A_pickT ?_ | with_reducible refine A_pickF ?_ | with_reducible refine A_pick2 (fun hc => ?_) (fun hc => ?_))
          all_goals (with_reducible refine A_mov ?_)
          all_goals refine O_nil ?_
          iterate 6 all_goals (first | with_reducible refine stp ?_ | with_reducible refine B_o rfl ?_ | with_reducible refine A_condT ?_ | with_reducible refine A_condF ?_ | with_reducible refine A_cond2 (fun hc => ?_) (fun hc => ?_) | with_reducible refine A_E ?_ | skip)
          exact ⟨rfl⟩
        · have f3 : decide (Int.ofNat i ≤ 4096) = false := by simp only [decide_eq_false_iff_not, Int.ofNat_eq_natCast]; omega
          by_cases ha0 : a = 0
          · have f4 : ((Int.ofNat a) == 0) = true := by rw [ha0]; rfl
            clear ha0
            all_goals (unfold x3_r4)
            all_goals (with_reducible refine C_reg ?_)
            all_goals (with_reducible refine A_mov ?_)
            all_goals (refine A_bin ?_)
            all_goals (with_reducible refine A_mov ?_)
            all_goals (first | with_reducible refine A_gdN ?_ | with_reducible refine A_gdU ?_ | (with_reducible refine A_gdT ?_; (with_reducible refine A_mov ?_)) | (with_reducible refine A_gd2t (fun hc => ?_) (fun hc => ?_); (with_reducible refine A_mov ?_)))
            all_goals (first | with_reducible refine A_gdN ?_ | with_reducible refine A_gdU ?_ | (with_reducible refine A_gdT ?_; (with_reducible refine A_mov ?_)) | (with_reducible refine A_gd2t (fun hc => ?_) (fun hc => ?_); (with_reducible refine A_mov ?_)))
            all_goals (first | with_reducible refine A_gdN ?_ | with_reducible refine A_gdU ?_ | (with_reducible refine A_gdT ?_; (refine A_bin ?_)) | (with_reducible refine A_gd2t (fun hc => ?_) (fun hc => ?_); (refine A_bin ?_)))
            all_goals (first | with_reducible refine A_gdN ?_ | with_reducible refine A_gdU ?_ | (with_reducible refine A_gdT ?_; (refine A_call ?_)) | (with_reducible refine A_gd2t (fun hc => ?_) (fun hc => ?_); (refine A_call ?_)))
            all_goals (first | with_reducible refine A_gdN ?_ | with_reducible refine A_gdU ?_ | (with_reducible refine A_gdT ?_; (refine A_call ?_)) | (with_reducible refine A_gd2t (fun hc => ?_) (fun hc => ?_); (refine A_call ?_)))
            all_goals (first | with_reducible refine A_gdN ?_ | with_reducible refine A_gdU ?_ | (with_reducible refine A_gdT ?_; (with_reducible refine A_un ?_)) | (with_reducible refine A_gd2t (fun hc => ?_) (fun hc => ?_); (with_reducible refine A_un ?_)))
            all_goals (first | with_reducible refine A_pickT ?_ | with_reducible refine A_pickF ?_ | with_reducible refine A_pick2 (fun hc => ?_) (fun hc => ?_))
            all_goals (with_reducible refine A_mov ?_)
            all_goals (first | with_reducible refine A_gdF ?_ | with_reducible refine A_gdU ?_ | (with_reducible refine A_gdT ?_; (with_reducible refine A_mov ?_)) | (with_reducible refine A_gd2f (fun hc => ?_) (fun hc => ?_); (with_reducible refine A_mov ?_)))
            all_goals (first | with_reducible refine A_gdF ?_ | with_reducible refine A_gdU ?_ | (with_reducible refine A_gdT ?_; (with_reducible refine A_mov ?_)) | (with_reducible refine A_gd2f (fun hc => ?_) (fun hc => ?_); (with_reducible refine A_mov ?_)))
            all_goals (first | with_reducible refine A_gdF ?_ | with_reducible refine A_gdU ?_ | (with_reducible refine A_gdT ?_; (refine A_bin ?_)) | (with_reducible refine A_gd2f (fun hc => ?_) (fun hc => ?_); (refine A_bin ?_)))
            all_goals (first | with_reducible refine A_gdF ?_ | with_reducible refine A_gdU ?_ | (with_reducible refine A_gdT ?_; (with_reducible refine A_mov ?_)) | (with_reducible refine A_gd2f (fun hc => ?_) (fun hc => ?_); (with_reducible refine A_mov ?_)))
            all_goals (first | with_reducible refine A_gdN ?_ | with_reducible refine A_gdU ?_ | (with_reducible refine A_gdT ?_; (with_reducible refine A_mov ?_)) | (with_reducible refine A_gd2t (fun hc => ?_) (fun hc => ?_); (with_reducible refine A_mov ?_)))
            all_goals (first | with_reducible refine A_gdN ?_ | with_reducible refine A_gdU ?_ | (with_reducible refine A_gdT ?_; (with_reducible refine A_mov ?_)) | (with_reducible refine A_gd2t (fun hc => ?_) (fun hc => ?_); (with_reducible refine A_mov ?_)))
            all_goals (first | with_reducible refine A_gdN ?_ | with_reducible refine A_gdU ?_ | (with_reducible refine A_gdT ?_; (refine A_call ?_)) | (with_reducible refine A_gd2t (fun hc => ?_) (fun hc => ?_); (refine A_call ?_)))
            all_goals (first | with_reducible refine A_gdN ?_ | with_reducible refine A_gdU ?_ | (with_reducible refine A_gdT ?_; (refine A_call ?_)) | (with_reducible refine A_gd2t (fun hc => ?_) (fun hc => ?_); (refine A_call ?_)))
            all_goals (first | with_reducible refine A_gdN ?_ | with_reducible refine A_gdU ?_ | (with_reducible refine A_gdT ?_; (with_reducible refine A_un ?_)) | (with_reducible refine A_gd2t (fun hc => ?_) (fun hc => ?_); (with_reducible refine A_un ?_)))
            all_goals (first | with_reducible refine A_gdF ?_ | with_reducible refine A_gdU ?_ | (with_reducible refine A_gdT ?_; (first | with_reducible refine A_pickT ?_ | with_reducible refine A_pickF ?_ | with_reducible refine A_pick2 (fun hc => ?_) (fun hc => ?_))) | (with_reducible refine A_gd2f (fun hc => ?_) (fun hc => ?_); (first | with_reducible refine A_pickT ?_ | with_reducible refine A_pickF ?_ | with_reducible refine A_pick2 (fun hc => ?_) (fun hc => ?_))))
            all_goals (first | with_reducible refine A_pickT ?_ | with_reducible refine A_pickF ?_ | with_reducible refine A_pick2 (fun hc => ?_) (fun hc => ?_))
            all_goals refine O_nil ?_
            iterate 6 all_goals (first | with_reducible refine stp ?_ | with_reducible refine B_o rfl ?_ | with_reducible refine A_condT ?_ | with_reducible refine A_condF ?_ | with_reducible refine A_cond2 (fun hc => ?_) (fun hc => ?_) | with_reducible refine A_E ?_ | skip)
            all_goals (unfold x3_r5)
            all_goals (with_reducible refine C_reg ?_)
            all_goals (with_reducible refine A_mov ?_)
            all_goals (refine A_bin ?_)
            all_goals (with_reducible refine A_mov ?_)
            all_goals (first | with_reducible refine A_gdF ?_ | with_reducible refine A_gdU ?_ | (with_reducible refine A_gdT ?_; (with_reducible refine A_mov ?_)) | (with_reducible refine A_gd2f (fun hc => ?_) (fun hc => ?_); (with_reducible refine A_mov ?_)))
            all_goals (first | with_reducible refine A_gdF ?_ | with_reducible refine A_gdU ?_ | (with_reducible refine A_gdT ?_; (refine A_bin ?_)) | (with_reducible refine A_gd2f (fun hc => ?_) (fun hc => ?_); (refine A_bin ?_)))
            all_goals (first | with_reducible refine A_pickT ?_ | with_reducible refine A_pickF ?_ | with_reducible refine A_pick2 (fun hc => ?_) (fun hc => ?_))
            all_goals (with_reducible refine A_mov ?_)
            all_goals (first | with_reducible refine A_gdF ?_ | with_reducible refine A_gdU ?_ | (with_reducible refine A_gdT ?_; (with_reducible refine A_mov ?_)) | (with_reducible refine A_gd2f (fun hc => ?_) (fun hc => ?_); (with_reducible refine A_mov ?_)))
            all_goals (first | with_reducible refine A_gdF ?_ | with_reducible refine A_gdU ?_ | (with_reducible refine A_gdT ?_; (refine A_call ?_)) | (with_reducible refine A_gd2f (fun hc => ?_) (fun hc => ?_); (refine A_call ?_)))
            all_goals (first | with_reducible refine A_gdF ?_ | with_reducible refine A_gdU ?_ | (with_reducible refine A_gdT ?_; (refine A_call ?_)) | (with_reducible refine A_gd2f (fun hc => ?_) (fun hc => ?_); (refine A_call ?_)))
            all_goals (first | with_reducible refine A_gdF ?_ | with_reducible refine A_gdU ?_ | (with_reducible refine A_gdT ?_; (with_reducible refine A_un ?_)) | (with_reducible refine A_gd2f (fun hc => ?_) (fun hc => ?_); (with_reducible refine A_un ?_)))
            all_goals (first | with_reducible refine A_pickT ?_ | with_reducible refine A_pickF ?_ | with_reducible refine A_pick2 (fun hc => ?_) (fun hc => ?_))
            all_goals (with_reducible refine A_mov ?_)
            all_goals refine O_nil ?_
            iterate 6 all_goals (first | with_reducible refine stp ?_ | with_reducible refine B_o rfl ?_ | with_reducible refine A_condT ?_ | with_reducible refine A_condF ?_ | with_reducible refine A_cond2 (fun hc => ?_) (fun hc => ?_) | with_reducible refine A_E ?_ | skip)
            exact ⟨rfl⟩
          · have f4 : ((Int.ofNat a) == 0) = false := by
              rw [beq_eq_false_iff_ne, Int.ofNat_eq_natCast]; omega
            obtain ⟨o3, k3, hH3⟩ := hH2.known hl16 (i := 0) (by omega)
            rw [decide_eq_false (st_zero ha' ha0 (by omega))] at k3
            have c3 := (cknown _ _ _).trans k3
            clear k3 ha0 hle
            all_goals (unfold x3_r4)
            all_goals (with_reducible refine C_reg ?_)
            all_goals (with_reducible refine A_mov ?_)
            all_goals (refine A_bin ?_)
            all_goals (with_reducible refine A_mov ?_)
            all_goals (first | with_reducible refine A_gdN ?_ | with_reducible refine A_gdU ?_ | (with_reducible refine A_gdT ?_; (with_reducible refine A_mov ?_)) | (with_reducible refine A_gd2t (fun hc => ?_) (fun hc => ?_); (with_reducible refine A_mov ?_)))
            all_goals (first | with_reducible refine A_gdN ?_ | with_reducible refine A_gdU ?_ | (with_reducible refine A_gdT ?_; (with_reducible refine A_mov ?_)) | (with_reducible refine A_gd2t (fun hc => ?_) (fun hc => ?_); (with_reducible refine A_mov ?_)))
            all_goals (first | with_reducible refine A_gdN ?_ | with_reducible refine A_gdU ?_ | (with_reducible refine A_gdT ?_; (refine A_bin ?_)) | (with_reducible refine A_gd2t (fun hc => ?_) (fun hc => ?_); (refine A_bin ?_)))
            all_goals (first | with_reducible refine A_gdN ?_ | with_reducible refine A_gdU ?_ | (with_reducible refine A_gdT ?_; (refine A_call ?_)) | (with_reducible refine A_gd2t (fun hc => ?_) (fun hc => ?_); (refine A_call ?_)))
            all_goals (first | with_reducible refine A_gdN ?_ | with_reducible refine A_gdU ?_ | (with_reducible refine A_gdT ?_; (refine A_call ?_)) | (with_reducible refine A_gd2t (fun hc => ?_) (fun hc => ?_); (refine A_call ?_)))
            all_goals (first | with_reducible refine A_gdN ?_ | with_reducible refine A_gdU ?_ | (with_reducible refine A_gdT ?_; (with_reducible refine A_un ?_)) | (with_reducible refine A_gd2t (fun hc => ?_) (fun hc => ?_); (with_reducible refine A_un ?_)))
            all_goals (first | with_reducible refine A_pickT ?_ | with_reducible refine A_pickF ?_ | with_reducible refine A_pick2 (fun hc => ?_) (fun hc => ?_))
            all_goals (with_reducible refine A_mov ?_)
            all_goals (first | with_reducible refine A_gdF ?_ | with_reducible refine A_gdU ?_ | (with_reducible refine A_gdT ?_; (with_reducible refine A_mov ?_)) | (with_reducible refine A_gd2f (fun hc => ?_) (fun hc => ?_); (with_reducible refine A_mov ?_)))
            all_goals (first | with_reducible refine A_gdF ?_ | with_reducible refine A_gdU ?_ | (with_reducible refine A_gdT ?_; (with_reducible refine A_mov ?_)) | (with_reducible refine A_gd2f (fun hc => ?_) (fun hc => ?_); (with_reducible refine A_mov ?_)))
            all_goals (first | with_reducible refine A_gdF ?_ | with_reducible refine A_gdU ?_ | (with_reducible refine A_gdT ?_; (refine A_bin ?_)) | (with_reducible refine A_gd2f (fun hc => ?_) (fun hc => ?_); (refine A_bin ?_)))
            all_goals (first | with_reducible refine A_gdF ?_ | with_reducible refine A_gdU ?_ | (with_reducible refine A_gdT ?_; (with_reducible refine A_mov ?_)) | (with_reducible refine A_gd2f (fun hc => ?_) (fun hc => ?_); (with_reducible refine A_mov ?_)))
            all_goals (first | with_reducible refine A_gdN ?_ | with_reducible refine A_gdU ?_ | (with_reducible refine A_gdT ?_; (with_reducible refine A_mov ?_)) | (with_reducible refine A_gd2t (fun hc => ?_) (fun hc => ?_); (with_reducible refine A_mov ?_)))
            all_goals (first | with_reducible refine A_gdN ?_ | with_reducible refine A_gdU ?_ | (with_reducible refine A_gdT ?_; (with_reducible refine A_mov ?_)) | (with_reducible refine A_gd2t (fun hc => ?_) (fun hc => ?_); (with_reducible refine A_mov ?_)))
            all_goals (first | with_reducible refine A_gdN ?_ | with_reducible refine A_gdU ?_ | (with_reducible refine A_gdT ?_; (refine A_call ?_)) | (with_reducible refine A_gd2t (fun hc => ?_) (fun hc => ?_); (refine A_call ?_)))
            all_goals (first | with_reducible refine A_gdN ?_ | with_reducible refine A_gdU ?_ | (with_reducible refine A_gdT ?_; (refine A_call ?_)) | (with_reducible refine A_gd2t (fun hc => ?_) (fun hc => ?_); (refine A_call ?_)))
            all_goals (first | with_reducible refine A_gdN ?_ | with_reducible refine A_gdU ?_ | (with_reducible refine A_gdT ?_; (with_reducible refine A_un ?_)) | (with_reducible refine A_gd2t (fun hc => ?_) (fun hc => ?_); (with_reducible refine A_un ?_)))
            all_goals (first | with_reducible refine A_gdF ?_ | with_reducible refine A_gdU ?_ | (with_reducible refine A_gdT ?_; (first | with_reducible refine A_pickT ?_ | with_reducible refine A_pickF ?_ | with_reducible refine A_pick2 (fun hc => ?_) (fun hc => ?_))) | (with_reducible refine A_gd2f (fun hc => ?_) (fun hc => ?_); (first | with_reducible refine A_pickT ?_ | with_reducible refine A_pickF ?_ | with_reducible refine A_pick2 (fun hc => ?_) (fun hc => ?_))))
            all_goals (first | with_reducible refine A_pickT ?_ | with_reducible refine A_pickF ?_ | with_reducible refine A_pick2 (fun hc => ?_) (fun hc => ?_))
            all_goals refine O_nil ?_
            iterate 6 all_goals (first | with_reducible refine stp ?_ | with_reducible refine B_o rfl ?_ | with_reducible refine A_condT ?_ | with_reducible refine A_condF ?_ | with_reducible refine A_cond2 (fun hc => ?_) (fun hc => ?_) | with_reducible refine A_E ?_ | skip)
            all_goals (unfold x3_r5)
            all_goals (with_reducible refine C_reg ?_)
            all_goals (with_reducible refine A_mov ?_)
            all_goals (refine A_bin ?_)
            all_goals (with_reducible refine A_mov ?_)
            all_goals (first | with_reducible refine A_gdF ?_ | with_reducible refine A_gdU ?_ | (with_reducible refine A_gdT ?_; (with_reducible refine A_mov ?_)) | (with_reducible refine A_gd2f (fun hc => ?_) (fun hc => ?_); (with_reducible refine A_mov ?_)))
            all_goals (first | with_reducible refine A_gdF ?_ | with_reducible refine A_gdU ?_ | (with_reducible refine A_gdT ?_; (refine A_bin ?_)) | (with_reducible refine A_gd2f (fun hc => ?_) (fun hc => ?_); (refine A_bin ?_)))
            all_goals (first | with_reducible refine A_pickT ?_ | with_reducible refine A_pickF ?_ | with_reducible refine A_pick2 (fun hc => ?_) (fun hc => ?_))
            all_goals (with_reducible refine A_mov ?_)
            all_goals (first | with_reducible refine A_gdF ?_ | with_reducible refine A_gdU ?_ | (with_reducible refine A_gdT ?_; (with_reducible refine A_mov ?_)) | (with_reducible refine A_gd2f (fun hc => ?_) (fun hc => ?_); (with_reducible refine A_mov ?_)))
            all_goals (first | with_reducible refine A_gdF ?_ | with_reducible refine A_gdU ?_ | (with_reducible refine A_gdT ?_; (refine A_call ?_)) | (with_reducible refine A_gd2f (fun hc => ?_) (fun hc => ?_); (refine A_call ?_)))
            all_goals (first | with_reducible refine A_gdF ?_ | with_reducible refine A_gdU ?_ | (with_reducible refine A_gdT ?_; (refine A_call ?_)) | (with_reducible refine A_gd2f (fun hc => ?_) (fun hc => ?_); (refine A_call ?_)))
            all_goals (first | with_reducible refine A_gdF ?_ | with_reducible refine A_gdU ?_ | (with_reducible refine A_gdT ?_; (with_reducible refine A_un ?_)) | (with_reducible refine A_gd2f (fun hc => ?_) (fun hc => ?_); (with_reducible refine A_un ?_)))
            all_goals (first | with_reducible refine A_pickT ?_ | with_reducible refine A_pickF ?_ | with_reducible refine A_pick2 (fun hc => ?_) (fun hc => ?_))
            all_goals (with_reducible refine A_mov ?_)
            all_goals refine O_nil ?_
            iterate 6 all_goals (first | with_reducible refine stp ?_ | with_reducible refine B_o rfl ?_ | with_reducible refine A_condT ?_ | with_reducible refine A_condF ?_ | with_reducible refine A_cond2 (fun hc => ?_) (fun hc => ?_) | with_reducible refine A_E ?_ | skip)
            exact ⟨rfl⟩
      · have f2 : decide (Int.ofNat a < Int.ofNat i) = false := by simp only [decide_eq_false_iff_not, Int.ofNat_eq_natCast]; omega
        by_cases hle : i ≤ 4096
        · have f3 : decide (Int.ofNat i ≤ 4096) = true := by simp only [decide_eq_true_eq, Int.ofNat_eq_natCast]; omega
          all_goals (unfold x3_r4)
          all_goals (with_reducible refine C_reg ?_)
          all_goals (with_reducible refine A_mov ?_)
          all_goals (refine A_bin ?_)
          all_goals (with_reducible refine A_mov ?_)
          all_goals (first | with_reducible refine A_gdN ?_ | with_reducible refine A_gdU ?_ | (with_reducible refine A_gdT ?_; (with_reducible refine A_mov ?_)) | (with_reducible refine A_gd2t (fun hc => ?_) (fun hc => ?_); (with_reducible refine A_mov ?_)))
          all_goals (first | with_reducible refine A_gdN ?_ | with_reducible refine A_gdU ?_ | (with_reducible refine A_gdT ?_; (with_reducible refine A_mov ?_)) | (with_reducible refine A_gd2t (fun hc => ?_) (fun hc => ?_); (with_reducible refine A_mov ?_)))
          all_goals (first | with_reducible refine A_gdN ?_ | with_reducible refine A_gdU ?_ | (with_reducible refine A_gdT ?_; (refine A_bin ?_)) | (with_reducible refine A_gd2t (fun hc => ?_) (fun hc => ?_); (refine A_bin ?_)))
          all_goals (first | with_reducible refine A_gdN ?_ | with_reducible refine A_gdU ?_ | (with_reducible refine A_gdT ?_; (refine A_call ?_)) | (with_reducible refine A_gd2t (fun hc => ?_) (fun hc => ?_); (refine A_call ?_)))
          all_goals (first | with_reducible refine A_gdN ?_ | with_reducible refine A_gdU ?_ | (with_reducible refine A_gdT ?_; (refine A_call ?_)) | (with_reducible refine A_gd2t (fun hc => ?_) (fun hc => ?_); (refine A_call ?_)))
          all_goals (first | with_reducible refine A_gdN ?_ | with_reducible refine A_gdU ?_ | (with_reducible refine A_gdT ?_; (with_reducible refine A_un ?_)) | (with_reducible refine A_gd2t (fun hc => ?_) (fun hc => ?_); (with_reducible refine A_un ?_)))
          all_goals (first | with_reducible refine A_pickT ?_ | with_reducible refine A_pickF ?_ | with_reducible refine A_pick2 (fun hc => ?_) (fun hc => ?_))
          all_goals (with_reducible refine A_mov ?_)
          all_goals (first | with_reducible refine A_gdF ?_ | with_reducible refine A_gdU ?_ | (with_reducible refine A_gdT ?_; (with_reducible refine A_mov ?_)) | (with_reducible refine A_gd2f (fun hc => ?_) (fun hc => ?_); (with_reducible refine A_mov ?_)))
          all_goals (first | with_reducible refine A_gdF ?_ | with_reducible refine A_gdU ?_ | (with_reducible refine A_gdT ?_; (with_reducible refine A_mov ?_)) | (with_reducible refine A_gd2f (fun hc => ?_) (fun hc => ?_); (with_reducible refine A_mov ?_)))
          all_goals (first | with_reducible refine A_gdF ?_ | with_reducible refine A_gdU ?_ | (with_reducible refine A_gdT ?_; (refine A_bin ?_)) | (with_reducible refine A_gd2f (fun hc => ?_) (fun hc => ?_); (refine A_bin ?_)))
          all_goals (first | with_reducible refine A_gdF ?_ | with_reducible refine A_gdU ?_ | (with_reducible refine A_gdT ?_; (with_reducible refine A_mov ?_)) | (with_reducible refine A_gd2f (fun hc => ?_) (fun hc => ?_); (with_reducible refine A_mov ?_)))
          all_goals (first | with_reducible refine A_gdN ?_ | with_reducible refine A_gdU ?_ | (with_reducible refine A_gdT ?_; (with_reducible refine A_mov ?_)) | (with_reducible refine A_gd2t (fun hc => ?_) (fun hc => ?_); (with_reducible refine A_mov ?_)))
          all_goals (first | with_reducible refine A_gdN ?_ | with_reducible refine A_gdU ?_ | (with_reducible refine A_gdT ?_; (with_reducible refine A_mov ?_)) | (with_reducible refine A_gd2t (fun hc => ?_) (fun hc => ?_); (with_reducible refine A_mov ?_)))
          all_goals (first | with_reducible refine A_gdN ?_ | with_reducible refine A_gdU ?_ | (with_reducible refine A_gdT ?_; (refine A_call ?_)) | (with_reducible refine A_gd2t (fun hc => ?_) (fun hc => ?_); (refine A_call ?_)))
          all_goals (first | with_reducible refine A_gdN ?_ | with_reducible refine A_gdU ?_ | (with_reducible refine A_gdT ?_; (refine A_call ?_)) | (with_reducible refine A_gd2t (fun hc => ?_) (fun hc => ?_); (refine A_call ?_)))
          all_goals (first | with_reducible refine A_gdN ?_ | with_reducible refine A_gdU ?_ | (with_reducible refine A_gdT ?_; (with_reducible refine A_un ?_)) | (with_reducible refine A_gd2t (fun hc => ?_) (fun hc => ?_); (with_reducible refine A_un ?_)))
          all_goals (first | with_reducible refine A_gdF ?_ | with_reducible refine A_gdU ?_ | (with_reducible refine A_gdT ?_; (first | with_reducible refine A_pickT ?_ | with_reducible refine A_pickF ?_ | with_reducible refine A_pick2 (fun hc => ?_) (fun hc => ?_))) | (with_reducible refine A_gd2f (fun hc => ?_) (fun hc => ?_); (first | with_reducible refine A_pickT ?_ | with_reducible refine A_pickF ?_ | with_reducible refine A_pick2 (fun hc => ?_) (fun hc => ?_))))
          all_goals (first | with_reducible refine A_pickT ?_ | with_reducible refine A_pickF ?_ | with_reducible refine A_pick2 (fun hc => ?_) (fun hc => ?_))
          all_goals refine O_nil ?_
          iterate 6 all_goals (first | with_reducible refine stp ?_ | with_reducible refine B_o rfl ?_ | with_reducible refine A_condT ?_ | with_reducible refine A_condF ?_ | with_reducible refine A_cond2 (fun hc => ?_) (fun hc => ?_) | with_reducible refine A_E ?_ | skip)
          all_goals (unfold x3_r5)
          all_goals (with_reducible refine C_reg ?_)
          all_goals (with_reducible refine A_mov ?_)
          all_goals (refine A_bin ?_)
          all_goals (with_reducible refine A_mov ?_)
          all_goals (first | with_reducible refine A_gdF ?_ | with_reducible refine A_gdU ?_ | (with_reducible refine A_gdT ?_; (with_reducible refine A_mov ?_)) | (with_reducible refine A_gd2f (fun hc => ?_) (fun hc => ?_); (with_reducible refine A_mov ?_)))
          all_goals (first | with_reducible refine A_gdF ?_ | with_reducible refine A_gdU ?_ | (with_reducible refine A_gdT ?_; (refine A_bin ?_)) | (with_reducible refine A_gd2f (fun hc => ?_) (fun hc => ?_); (refine A_bin ?_)))
          all_goals (first | with_reducible refine A_pickT ?_ | with_reducible refine A_pickF ?_ | with_reducible refine A_pick2 (fun hc => ?_) (fun hc => ?_))
          all_goals (with_reducible refine A_mov ?_)
          all_goals (first | with_reducible refine A_gdF ?_ | with_reducible refine A_gdU ?_ | (with_reducible refine A_gdT ?_; (with_reducible refine A_mov ?_)) | (with_reducible refine A_gd2f (fun hc => ?_) (fun hc => ?_); (with_reducible refine A_mov ?_)))
          all_goals (first | with_reducible refine A_gdF ?_ | with_reducible refine A_gdU ?_ | (with_reducible refine A_gdT ?_; (refine A_call ?_)) | (with_reducible refine A_gd2f (fun hc => ?_) (fun hc => ?_); (refine A_call ?_)))
          all_goals (first | with_reducible refine A_gdF ?_ | with_reducible refine A_gdU ?_ | (with_reducible refine A_gdT ?_; (refine A_call ?_)) | (with_reducible refine A_gd2f (fun hc => ?_) (fun hc => ?_); (refine A_call ?_)))
          all_goals (first | with_reducible refine A_gdF ?_ | with_reducible refine A_gdU ?_ | (with_reducible refine A_gdT ?_; (with_reducible refine A_un ?_)) | (with_reducible refine A_gd2f (fun hc => ?_) (fun hc => ?_); (with_reducible refine A_un ?_)))
          all_goals (first | with_reducible refine A_pickT ?_ | with_reducible refine A_pickF ?_ | with_reducible refine A_pick2 (fun hc => ?_) (fun hc => ?_))
          all_goals (with_reducible refine A_mov ?_)
          all_goals refine O_nil ?_
          iterate 6 all_goals (first | with_reducible refine stp ?_ | with_reducible refine B_o rfl ?_ | with_reducible refine A_condT ?_ | with_reducible refine A_condF ?_ | with_reducible refine A_cond2 (fun hc => ?_) (fun hc => ?_) | with_reducible refine A_E ?_ | skip)
          exact ⟨rfl⟩
        · exfalso
          omega
end Go.Proofs.YtmmmpgnkglhkjaaGreatDoor.cacheBound
