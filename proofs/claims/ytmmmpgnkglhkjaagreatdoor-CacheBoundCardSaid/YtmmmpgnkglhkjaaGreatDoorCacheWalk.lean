/- WHAT THE CALLS OF A CACHE DO TO MEMORY. No condition but on the calls that they make. -/
import Derived.Test.YtmmmpgnkglhkjaaGreatDoorSvE
import Derived.Test.YtmmmpgnkglhkjaaGreatDoorChecked
import Derived.KernelRfl
set_option linter.unusedVariables false
set_option linter.unusedSimpArgs false
namespace Go.Proofs.YtmmmpgnkglhkjaaGreatDoor.cacheW
open Go.Sy
/- (*berthmaster/cache.Cache).none -/
noncomputable def x14_r0 : XC := .reg [⟨(some 3), .mov (.t 0), none⟩,
    ⟨(some 4), .peq false (.t 3) (.c (.nilptr)), none⟩,
    ⟨(some 5), .mov (.t 4), none⟩,
    ⟨(some 6), .mov (.t 0), (some (5, false))⟩,
    ⟨(some 7), .nilchk (.t 6), (some (5, false))⟩,
    ⟨(some 8), .faddr (.t 7) 0, (some (5, false))⟩,
    ⟨(some 9), .load (.t 8) 1 false, (some (5, false))⟩,
    ⟨(some 10), .peq false (.t 9) (.c (.nilptr)), (some (5, false))⟩,
    ⟨(some 11), .pick (.t 5) (.c (.bool true)) (.t 10), none⟩,
    ⟨(some 2), .mov (.t 11), none⟩]
noncomputable def x14 : XF := ⟨1, 12, .seq (.reg [⟨(some 2), .mov (.c (.bool false)), none⟩]) (.seq (x14_r0) (.ret)), [.t 2]⟩
theorem fx14 : FnX Tryz.prog 14 x14 := ⟨⟨Tryz.f14, Tryz.func14, by kernel_rfl, by kernel_rfl⟩⟩
/- (*berthmaster/cache.Cache).find -/
noncomputable def x15_d0 : XC := .draw [⟨(some 9), .mov (.t 0), none⟩,
    ⟨(some 10), .nilchk (.t 9), none⟩,
    ⟨(some 11), .faddr (.t 10) 1, none⟩,
    ⟨(some 12), .load (.t 11) 1 false, none⟩,
    ⟨(some 13), .load (.t 4) 2 true, none⟩,
    ⟨(some 14), .lookup true [.s, .s] (.t 12) (.t 13) (.nilptr) false, none⟩,
    ⟨(some 8), .mov (.t 14), none⟩] [⟨0, [0]⟩, ⟨1, [9]⟩, ⟨3, [10]⟩, ⟨7, [11]⟩, ⟨0, [4]⟩, ⟨31, [12, 13]⟩, ⟨63, [14]⟩]
noncomputable def x15_d1 : XC := .draw [⟨(some 15), .mov (.t 8), none⟩,
    ⟨(some 16), .mov (.t 8), none⟩,
    ⟨(some 17), .peq true (.t 16) (.c (.nilptr)), none⟩,
    ⟨(some 18), .mov (.t 17), none⟩,
    ⟨(some 19), .mov (.t 8), (some (18, true))⟩,
    ⟨(some 20), .nilchk (.t 19), (some (18, true))⟩,
    ⟨(some 21), .faddr (.t 20) 0, (some (18, true))⟩,
    ⟨(some 22), .faddr (.t 21) 2, (some (18, true))⟩,
    ⟨(some 23), .load (.t 22) 1 false, (some (18, true))⟩,
    ⟨(some 24), .mov (.t 2), (some (18, true))⟩,
    ⟨(some 25), .bin .eql (.t 23) (.t 24), (some (18, true))⟩,
    ⟨(some 26), .pick (.t 18) (.t 25) (.c (.bool false)), none⟩,
    ⟨(some 6), .mov (.t 15), none⟩,
    ⟨(some 7), .mov (.t 26), none⟩] [⟨0, [8]⟩, ⟨0, [8]⟩, ⟨2, [16]⟩, ⟨6, [17]⟩, ⟨14, [18, 8]⟩, ⟨30, [18, 19]⟩, ⟨62, [18, 20]⟩, ⟨126, [18, 21]⟩, ⟨254, [18, 22]⟩, ⟨14, [18, 2]⟩, ⟨1022, [18, 23, 24]⟩, ⟨2046, [18, 25]⟩, ⟨15, [15]⟩, ⟨8191, [26]⟩]
noncomputable def x15 : XF := ⟨3, 27, .seq (.reg [⟨(some 4), .box (.t 1) 2, none⟩,
    ⟨(some 6), .mov (.c (.nilptr)), none⟩,
    ⟨(some 7), .mov (.c (.bool false)), none⟩]) (.seq (x15_d0) (.seq (x15_d1) (.ret))), [.t 6, .t 7]⟩
theorem fx15 : FnX Tryz.prog 15 x15 := ⟨⟨Tryz.f15, Tryz.func15, by kernel_rfl, by kernel_rfl⟩⟩
/- (*berthmaster/cache.link).cut -/
noncomputable def x16_d0 : XC := .draw [⟨(some 2), .mov (.t 0), none⟩,
    ⟨(some 3), .nilchk (.t 2), none⟩,
    ⟨(some 4), .faddr (.t 3) 5, none⟩,
    ⟨(some 5), .load (.t 4) 1 false, none⟩,
    ⟨(some 6), .mov (.t 0), none⟩,
    ⟨(some 7), .nilchk (.t 6), none⟩,
    ⟨(some 8), .faddr (.t 7) 6, none⟩,
    ⟨(some 9), .load (.t 8) 1 false, none⟩,
    ⟨(some 10), .mov (.t 0), none⟩,
    ⟨(some 11), .nilchk (.t 10), none⟩,
    ⟨(some 12), .faddr (.t 11) 6, none⟩,
    ⟨(some 13), .load (.t 12) 1 false, none⟩,
    ⟨(some 14), .mov (.t 0), none⟩,
    ⟨(some 15), .nilchk (.t 14), none⟩,
    ⟨(some 16), .faddr (.t 15) 5, none⟩,
    ⟨(some 17), .load (.t 16) 1 false, none⟩,
    ⟨(some 18), .nilchk (.t 5), none⟩,
    ⟨(some 19), .faddr (.t 18) 6, none⟩,
    ⟨none, .store (.t 19) (.t 13) 1, none⟩,
    ⟨(some 20), .nilchk (.t 9), none⟩,
    ⟨(some 21), .faddr (.t 20) 5, none⟩,
    ⟨none, .store (.t 21) (.t 17) 1, none⟩] [⟨0, [0]⟩, ⟨1, [2]⟩, ⟨3, [3]⟩, ⟨7, [4]⟩, ⟨0, [0]⟩, ⟨16, [6]⟩, ⟨48, [7]⟩, ⟨112, [8]⟩, ⟨0, [0]⟩, ⟨256, [10]⟩, ⟨768, [11]⟩, ⟨1792, [12]⟩, ⟨0, [0]⟩, ⟨4096, [14]⟩, ⟨12288, [15]⟩, ⟨28672, [16]⟩, ⟨65535, [5]⟩, ⟨131071, [18]⟩, ⟨262143, [19, 13]⟩, ⟨524287, [9]⟩, ⟨1048575, [20]⟩, ⟨2097151, [21, 17]⟩]
noncomputable def x16 : XF := ⟨1, 22, x16_d0, []⟩
theorem fx16 : FnX Tryz.prog 16 x16 := ⟨⟨Tryz.f16, Tryz.func16, by kernel_rfl, by kernel_rfl⟩⟩
/- (*berthmaster/cache.link).join -/
noncomputable def x17_r0 : XC := .reg [⟨(some 4), .mov (.t 0), none⟩,
    ⟨(some 5), .mov (.t 0), none⟩,
    ⟨(some 6), .mov (.t 1), none⟩,
    ⟨(some 7), .mov (.t 1), none⟩,
    ⟨(some 8), .nilchk (.t 7), none⟩,
    ⟨(some 9), .faddr (.t 8) 6, none⟩,
    ⟨(some 10), .load (.t 9) 1 false, none⟩,
    ⟨(some 11), .nilchk (.t 4), none⟩,
    ⟨(some 12), .faddr (.t 11) 5, none⟩,
    ⟨none, .store (.t 12) (.t 6) 1, none⟩,
    ⟨(some 13), .nilchk (.t 5), none⟩,
    ⟨(some 14), .faddr (.t 13) 6, none⟩,
    ⟨none, .store (.t 14) (.t 10) 1, none⟩]
noncomputable def x17_r1 : XC := .reg [⟨(some 15), .mov (.t 1), none⟩,
    ⟨(some 16), .nilchk (.t 15), none⟩,
    ⟨(some 17), .faddr (.t 16) 6, none⟩,
    ⟨(some 18), .load (.t 17) 1 false, none⟩,
    ⟨(some 19), .mov (.t 1), none⟩,
    ⟨(some 20), .mov (.t 0), none⟩,
    ⟨(some 21), .mov (.t 0), none⟩,
    ⟨(some 22), .nilchk (.t 18), none⟩,
    ⟨(some 23), .faddr (.t 22) 5, none⟩,
    ⟨none, .store (.t 23) (.t 20) 1, none⟩,
    ⟨(some 24), .nilchk (.t 19), none⟩,
    ⟨(some 25), .faddr (.t 24) 6, none⟩,
    ⟨none, .store (.t 25) (.t 21) 1, none⟩]
noncomputable def x17 : XF := ⟨2, 26, .seq (x17_r0) (x17_r1), []⟩
theorem fx17 : FnX Tryz.prog 17 x17 := ⟨⟨Tryz.f17, Tryz.func17, by kernel_rfl, by kernel_rfl⟩⟩
/- (berthmaster/cache.known).answer -/
noncomputable def x18_r0 : XC := .reg [⟨(some 7), .faddr (.t 1) 3, none⟩,
    ⟨(some 8), .load (.t 7) 1 false, none⟩,
    ⟨(some 2), .mov (.t 8), none⟩,
    ⟨(some 3), .mov (.c (.int .i64 0)), none⟩]
noncomputable def x18 : XF := ⟨1, 9, .seq (.reg [⟨(some 1), .box (.t 0) 5, none⟩,
    ⟨(some 2), .mov (.c (.int .i64 0)), none⟩,
    ⟨(some 3), .mov (.c (.int .i64 0)), none⟩]) (.seq (.seq (.reg [⟨(some 4), .faddr (.t 1) 4, none⟩,
    ⟨(some 5), .load (.t 4) 1 false, none⟩,
    ⟨(some 6), .un .not (.t 5), none⟩]) (.cond (.t 6) (.seq (.reg [⟨(some 2), .mov (.c (.int .i64 0)), none⟩,
    ⟨(some 3), .mov (.c (.int .i64 14)), none⟩]) (.ret)) (.skip))) (.seq (x18_r0) (.ret))), [.t 2, .t 3]⟩
theorem fx18 : FnX Tryz.prog 18 x18 := ⟨⟨Tryz.f18, Tryz.func18, by kernel_rfl, by kernel_rfl⟩⟩
/- (*berthmaster/cache.Cache).put -/
noncomputable def x20_d0 : XC := .draw [⟨(some 6), .mov (.t 0), none⟩,
    ⟨(some 7), .nilchk (.t 6), none⟩,
    ⟨(some 8), .faddr (.t 7) 1, none⟩,
    ⟨(some 9), .load (.t 8) 1 false, none⟩,
    ⟨(some 10), .faddr (.t 3) 0, none⟩,
    ⟨(some 11), .load (.t 10) 2 true, none⟩,
    ⟨(some 12), .lookup true [.s, .s] (.t 9) (.t 11) (.nilptr) false, none⟩,
    ⟨(some 4), .mov (.t 12), none⟩] [⟨0, [0]⟩, ⟨1, [6]⟩, ⟨3, [7]⟩, ⟨7, [8]⟩, ⟨0, [3]⟩, ⟨16, [10]⟩, ⟨63, [9, 11]⟩, ⟨127, [12]⟩]
noncomputable def x20_r1 : XC := .reg [⟨(some 18), .mov (.t 0), none⟩,
    ⟨(some 19), .nilchk (.t 18), none⟩,
    ⟨(some 20), .faddr (.t 19) 1, none⟩,
    ⟨(some 21), .load (.t 20) 1 false, none⟩,
    ⟨(some 22), .lenM (.t 21), none⟩,
    ⟨(some 23), .bin .geq (.t 22) (.c (.int .i64 4096)), none⟩]
noncomputable def x20_r2 : XC := .reg [⟨(some 24), .mov (.t 0), none⟩,
    ⟨(some 25), .mov (.t 0), none⟩,
    ⟨(some 26), .nilchk (.t 25), none⟩,
    ⟨(some 27), .faddr (.t 26) 0, none⟩,
    ⟨(some 28), .load (.t 27) 1 false, none⟩,
    ⟨(some 29), .nilchk (.t 28), none⟩,
    ⟨(some 30), .faddr (.t 29) 5, none⟩,
    ⟨(some 31), .load (.t 30) 1 false, none⟩,
    ⟨(some 32), .call 24 [.t 24, .t 31], none⟩]
noncomputable def x20_r3 : XC := .reg [⟨(some 33), .load (.t 3) 5 true, none⟩,
    ⟨(some 34), .build [.str [], .str [], .int .u64 0, .int .i64 0, .bool false, .nilptr, .nilptr] [(0, 5, .t 33)], none⟩,
    ⟨(some 35), .box (.t 34) 7, none⟩,
    ⟨(some 5), .mov (.t 35), none⟩]
noncomputable def x20_r4 : XC := .reg [⟨(some 36), .mov (.t 5), none⟩,
    ⟨(some 37), .mov (.t 0), none⟩,
    ⟨(some 38), .nilchk (.t 37), none⟩,
    ⟨(some 39), .faddr (.t 38) 0, none⟩,
    ⟨(some 40), .load (.t 39) 1 false, none⟩,
    ⟨(some 41), .call 17 [.t 36, .t 40], none⟩]
noncomputable def x20_d5 : XC := .draw [⟨(some 42), .mov (.t 0), none⟩,
    ⟨(some 43), .nilchk (.t 42), none⟩,
    ⟨(some 44), .faddr (.t 43) 1, none⟩,
    ⟨(some 45), .load (.t 44) 1 false, none⟩,
    ⟨(some 46), .faddr (.t 3) 0, none⟩,
    ⟨(some 47), .load (.t 46) 2 true, none⟩,
    ⟨(some 48), .mov (.t 5), none⟩,
    ⟨none, .mupd true [.s, .s] (.t 45) (.t 47) (.t 48), none⟩] [⟨0, [0]⟩, ⟨1, [42]⟩, ⟨3, [43]⟩, ⟨7, [44]⟩, ⟨0, [3]⟩, ⟨16, [46]⟩, ⟨0, [5]⟩, ⟨127, [45, 47, 48]⟩]
noncomputable def x20 : XF := ⟨2, 49, .seq (.reg [⟨(some 3), .box (.t 1) 5, none⟩]) (.seq (.seq (x20_d0) (.seq (.reg [⟨(some 13), .mov (.t 4), none⟩,
    ⟨(some 14), .peq true (.t 13) (.c (.nilptr)), none⟩]) (.cond (.t 14) (.reg [⟨(some 15), .mov (.t 0), none⟩,
    ⟨(some 16), .mov (.t 4), none⟩,
    ⟨(some 17), .call 24 [.t 15, .t 16], none⟩]) (.skip)))) (.seq (.seq (x20_r1) (.cond (.t 23) (x20_r2) (.skip))) (.seq (x20_r3) (.seq (x20_r4) (x20_d5))))), []⟩
theorem fx20 : FnX Tryz.prog 20 x20 := ⟨⟨Tryz.f20, Tryz.func20, by kernel_rfl, by kernel_rfl⟩⟩
/- (*berthmaster/cache.Cache).drop -/
noncomputable def x24_d0 : XC := .draw [⟨(some 6), .mov (.t 0), none⟩,
    ⟨(some 7), .nilchk (.t 6), none⟩,
    ⟨(some 8), .faddr (.t 7) 1, none⟩,
    ⟨(some 9), .load (.t 8) 1 false, none⟩,
    ⟨(some 10), .mov (.t 1), none⟩,
    ⟨(some 11), .nilchk (.t 10), none⟩,
    ⟨(some 12), .faddr (.t 11) 0, none⟩,
    ⟨(some 13), .faddr (.t 12) 0, none⟩,
    ⟨(some 14), .load (.t 13) 2 true, none⟩,
    ⟨none, .del true [.s, .s] (.t 9) (.t 14), none⟩] [⟨0, [0]⟩, ⟨1, [6]⟩, ⟨3, [7]⟩, ⟨7, [8]⟩, ⟨0, [1]⟩, ⟨16, [10]⟩, ⟨48, [11]⟩, ⟨112, [12]⟩, ⟨240, [13]⟩, ⟨511, [9, 14]⟩]
noncomputable def x24 : XF := ⟨2, 15, .seq (.reg [⟨(some 4), .mov (.t 1), none⟩,
    ⟨(some 5), .call 16 [.t 4], none⟩]) (x24_d0), []⟩
theorem fx24 : FnX Tryz.prog 24 x24 := ⟨⟨Tryz.f24, Tryz.func24, by kernel_rfl, by kernel_rfl⟩⟩
/- (*berthmaster/cache.Cache).Score -/
noncomputable def x7_r0 : XC := .reg [⟨(some 8), .box (.t 3) 8, none⟩,
    ⟨(some 9), .box (.t 4) 8, none⟩,
    ⟨(some 10), .mov (.c (.int .i64 0)), none⟩,
    ⟨(some 11), .mov (.c (.int .i64 0)), none⟩]
noncomputable def x7_r1 : XC := .reg [⟨(some 19), .mov (.t 1), none⟩,
    ⟨(some 20), .lenS (.t 19), none⟩,
    ⟨(some 21), .bin .lss (.t 20) (.c (.int .i64 1)), none⟩,
    ⟨(some 22), .mov (.t 21), none⟩,
    ⟨(some 23), .mov (.t 1), (some (22, false))⟩,
    ⟨(some 24), .lenS (.t 23), (some (22, false))⟩,
    ⟨(some 25), .bin .gtr (.t 24) (.c (.int .i64 2048)), (some (22, false))⟩,
    ⟨(some 26), .pick (.t 22) (.c (.bool true)) (.t 25), none⟩]
noncomputable def x7_r2 : XC := .reg [⟨(some 27), .mov (.t 1), none⟩,
    ⟨(some 28), .faddr (.t 9) 0, none⟩,
    ⟨(some 29), .load (.t 28) 1 false, none⟩,
    ⟨(some 30), .build [.str [], .str []] [(0, 1, .t 27), (1, 1, .t 29)], none⟩,
    ⟨(some 12), .alloc [.str [], .str []], none⟩,
    ⟨none, .store (.t 12) (.t 30) 2, none⟩]
noncomputable def x7_r3 : XC := .reg [⟨(some 32), .mov (.t 0), none⟩,
    ⟨(some 33), .load (.t 12) 2 true, none⟩,
    ⟨(some 34), .mov (.t 2), none⟩,
    ⟨(some 35), .call 15 [.t 32, .t 33, .t 34], none⟩,
    ⟨(some 31), .mov (.t 35), none⟩,
    ⟨(some 36), .ext (.t 31) 0, none⟩,
    ⟨(some 37), .ext (.t 31) 1, none⟩,
    ⟨(some 13), .mov (.t 36), none⟩,
    ⟨(some 14), .mov (.t 37), none⟩]
noncomputable def x7_r4 : XC := .reg [⟨(some 39), .mov (.t 0), none⟩,
    ⟨(some 40), .nilchk (.t 39), none⟩,
    ⟨(some 41), .faddr (.t 40) 2, none⟩,
    ⟨(some 42), .load (.t 41) 1 false, none⟩,
    ⟨(some 43), .bin .add (.t 42) (.c (.int .u64 1)), none⟩,
    ⟨(some 44), .nilchk (.t 39), none⟩,
    ⟨(some 45), .faddr (.t 44) 2, none⟩,
    ⟨none, .store (.t 45) (.t 43) 1, none⟩]
noncomputable def x7_r5 : XC := .reg [⟨(some 48), .mov (.t 13), none⟩,
    ⟨(some 49), .mov (.t 0), none⟩,
    ⟨(some 50), .nilchk (.t 49), none⟩,
    ⟨(some 51), .faddr (.t 50) 0, none⟩,
    ⟨(some 52), .load (.t 51) 1 false, none⟩,
    ⟨(some 53), .call 17 [.t 48, .t 52], none⟩]
noncomputable def x7_r6 : XC := .reg [⟨(some 54), .mov (.t 13), none⟩,
    ⟨(some 55), .nilchk (.t 54), none⟩,
    ⟨(some 56), .faddr (.t 55) 0, none⟩,
    ⟨(some 57), .load (.t 56) 5 true, none⟩,
    ⟨(some 58), .call 18 [.t 57], none⟩,
    ⟨(some 59), .ext (.t 58) 0, none⟩,
    ⟨(some 60), .ext (.t 58) 1, none⟩,
    ⟨(some 10), .mov (.t 59), none⟩,
    ⟨(some 11), .mov (.t 60), none⟩]
noncomputable def x7_r7 : XC := .reg [⟨(some 62), .load (.t 8) 8 true, none⟩,
    ⟨(some 63), .load (.t 9) 8 true, none⟩,
    ⟨(some 64), .call 19 [.t 62, .t 63], none⟩,
    ⟨(some 61), .mov (.t 64), none⟩,
    ⟨(some 65), .ext (.t 61) 0, none⟩,
    ⟨(some 66), .ext (.t 61) 1, none⟩,
    ⟨(some 15), .mov (.t 65), none⟩,
    ⟨(some 16), .mov (.t 66), none⟩]
noncomputable def x7_r8 : XC := .reg [⟨(some 67), .mov (.t 16), none⟩,
    ⟨(some 68), .bin .eql (.t 67) (.c (.int .i64 0)), none⟩,
    ⟨(some 69), .mov (.t 68), none⟩,
    ⟨(some 70), .mov (.t 16), (some (69, false))⟩,
    ⟨(some 71), .bin .eql (.t 70) (.c (.int .i64 14)), (some (69, false))⟩,
    ⟨(some 72), .pick (.t 69) (.c (.bool true)) (.t 71), none⟩]
noncomputable def x7_r9 : XC := .reg [⟨(some 73), .mov (.t 0), none⟩,
    ⟨(some 74), .load (.t 12) 2 true, none⟩,
    ⟨(some 75), .mov (.t 2), none⟩,
    ⟨(some 76), .mov (.t 15), none⟩,
    ⟨(some 77), .mov (.t 16), none⟩,
    ⟨(some 78), .bin .eql (.t 77) (.c (.int .i64 0)), none⟩,
    ⟨(some 79), .build [.str [], .str [], .int .u64 0, .int .i64 0, .bool false] [(0, 2, .t 74), (2, 1, .t 75), (3, 1, .t 76), (4, 1, .t 78)], none⟩,
    ⟨(some 80), .call 20 [.t 73, .t 79], none⟩]
noncomputable def x7_r10 : XC := .reg [⟨(some 81), .mov (.t 15), none⟩,
    ⟨(some 82), .mov (.t 16), none⟩,
    ⟨(some 10), .mov (.t 81), none⟩,
    ⟨(some 11), .mov (.t 82), none⟩]
noncomputable def x7 : XF := ⟨5, 83, .seq (x7_r0) (.seq (.seq (.reg [⟨(some 17), .mov (.t 0), none⟩,
    ⟨(some 18), .call 14 [.t 17], none⟩]) (.cond (.t 18) (.seq (.reg [⟨(some 10), .mov (.c (.int .i64 0)), none⟩,
    ⟨(some 11), .mov (.c (.int .i64 1)), none⟩]) (.ret)) (.skip))) (.seq (.seq (x7_r1) (.cond (.t 26) (.seq (.reg [⟨(some 10), .mov (.c (.int .i64 0)), none⟩,
    ⟨(some 11), .mov (.c (.int .i64 2)), none⟩]) (.ret)) (.skip))) (.seq (x7_r2) (.seq (.seq (x7_r3) (.seq (.reg [⟨(some 38), .mov (.t 14), none⟩]) (.cond (.t 38) (.seq (x7_r4) (.seq (.reg [⟨(some 46), .mov (.t 13), none⟩,
    ⟨(some 47), .call 16 [.t 46], none⟩]) (.seq (x7_r5) (.seq (x7_r6) (.ret))))) (.skip)))) (.seq (x7_r7) (.seq (.seq (x7_r8) (.cond (.t 72) (x7_r9) (.skip))) (.seq (x7_r10) (.ret)))))))), [.t 10, .t 11]⟩
theorem fx7 : FnX Tryz.prog 7 x7 := ⟨⟨Tryz.f7, Tryz.func7, by kernel_rfl, by kernel_rfl⟩⟩
/- (*berthmaster/cache.Cache).Held -/
noncomputable def x11_r0 : XC := .reg [⟨(some 5), .mov (.t 0), none⟩,
    ⟨(some 6), .nilchk (.t 5), none⟩,
    ⟨(some 7), .faddr (.t 6) 1, none⟩,
    ⟨(some 8), .load (.t 7) 1 false, none⟩,
    ⟨(some 9), .lenM (.t 8), none⟩,
    ⟨(some 2), .mov (.t 9), none⟩]
noncomputable def x11 : XF := ⟨1, 10, .seq (.reg [⟨(some 2), .mov (.c (.int .i64 0)), none⟩]) (.seq (.seq (.reg [⟨(some 3), .mov (.t 0), none⟩,
    ⟨(some 4), .call 14 [.t 3], none⟩]) (.cond (.t 4) (.seq (.reg [⟨(some 2), .mov (.c (.int .i64 0)), none⟩]) (.ret)) (.skip))) (.seq (x11_r0) (.ret))), [.t 2]⟩
theorem fx11 : FnX Tryz.prog 11 x11 := ⟨⟨Tryz.f11, Tryz.func11, by kernel_rfl, by kernel_rfl⟩⟩
/- (*berthmaster/cache.Cache).Known -/
noncomputable def x12_r0 : XC := .reg [⟨(some 14), .mov (.t 0), none⟩,
    ⟨(some 15), .mov (.t 1), none⟩,
    ⟨(some 16), .mov (.t 2), none⟩,
    ⟨(some 17), .build [.str [], .str []] [(0, 1, .t 15), (1, 1, .t 16)], none⟩,
    ⟨(some 18), .mov (.t 3), none⟩,
    ⟨(some 19), .call 15 [.t 14, .t 17, .t 18], none⟩,
    ⟨(some 13), .mov (.t 19), none⟩,
    ⟨(some 20), .ext (.t 13) 0, none⟩,
    ⟨(some 21), .ext (.t 13) 1, none⟩,
    ⟨(some 9), .mov (.t 20), none⟩,
    ⟨(some 10), .mov (.t 21), none⟩]
noncomputable def x12 : XF := ⟨4, 23, .seq (.reg [⟨(some 8), .mov (.c (.bool false)), none⟩]) (.seq (.seq (.reg [⟨(some 11), .mov (.t 0), none⟩,
    ⟨(some 12), .call 14 [.t 11], none⟩]) (.cond (.t 12) (.seq (.reg [⟨(some 8), .mov (.c (.bool false)), none⟩]) (.ret)) (.skip))) (.seq (x12_r0) (.seq (.reg [⟨(some 22), .mov (.t 10), none⟩,
    ⟨(some 8), .mov (.t 22), none⟩]) (.ret)))), [.t 8]⟩
theorem fx12 : FnX Tryz.prog 12 x12 := ⟨⟨Tryz.f12, Tryz.func12, by kernel_rfl, by kernel_rfl⟩⟩
/- berthmaster/cache.New -/
noncomputable def x6_r0 : XC := .reg [⟨(some 4), .mov (.t 1), none⟩,
    ⟨(some 5), .mov (.t 1), none⟩,
    ⟨(some 6), .mov (.t 1), none⟩,
    ⟨(some 7), .mov (.t 1), none⟩,
    ⟨(some 8), .nilchk (.t 4), none⟩,
    ⟨(some 9), .faddr (.t 8) 5, none⟩,
    ⟨none, .store (.t 9) (.t 6) 1, none⟩,
    ⟨(some 10), .nilchk (.t 5), none⟩,
    ⟨(some 11), .faddr (.t 10) 6, none⟩,
    ⟨none, .store (.t 11) (.t 7) 1, none⟩]
noncomputable def x6_r1 : XC := .reg [⟨(some 12), .mov (.t 1), none⟩,
    ⟨(some 13), .mkmap, none⟩,
    ⟨(some 14), .build [.nilptr, .nilmap, .int .u64 0] [(0, 1, .t 12), (1, 1, .t 13)], none⟩,
    ⟨(some 15), .box (.t 14) 3, none⟩,
    ⟨(some 0), .mov (.t 15), none⟩]
noncomputable def x6 : XF := ⟨0, 16, .seq (.reg [⟨(some 0), .mov (.c (.nilptr)), none⟩]) (.seq (.reg [⟨(some 2), .build [.str [], .str [], .int .u64 0, .int .i64 0, .bool false, .nilptr, .nilptr] [], none⟩,
    ⟨(some 3), .box (.t 2) 7, none⟩,
    ⟨(some 1), .mov (.t 3), none⟩]) (.seq (x6_r0) (.seq (x6_r1) (.ret)))), [.t 0]⟩
theorem fx6 : FnX Tryz.prog 6 x6 := ⟨⟨Tryz.f6, Tryz.func6, by kernel_rfl, by kernel_rfl⟩⟩

section
variable {G : Cx} (hm : MethOK Tryz.prog G) (hmix : Tryz.prog.follows .mixedOrders = true)
def noneF : HF
  | [.ptr c 0], H, nx => match H.get c with
    | some (.cells false [.ptr r 0, .map m, .int .u64 h]) => some (.bool false, H, nx)
    | _ => none
  | _, _, _ => none
def cutF : HF
  | [.ptr x 0], H, nx => match H.get x with
    | some (.cells false [_, _, _, _, _, .ptr a 0, .ptr b 0]) => match H.get a with
      | some (.cells false [k, m, v, s, f, p, _]) => match (H.put a (.cells false [k, m, v, s, f, p, .ptr b 0])).get b with
        | some (.cells false [k', m', v', s', f', _, q']) => some (.tup [], (H.put a (.cells false [k, m, v, s, f, p, .ptr b 0])).put b (.cells false [k', m', v', s', f', .ptr a 0, q']), nx)
        | _ => none
      | _ => none
    | _ => none
  | _, _, _ => none
def findF : HF
  | [.ptr c 0, .agg [.str k, .str m], .int .u64 ver], H, nx => match Heap.get ((nx, .cells false [.str k, .str m]) :: H) c with
    | some (.cells false [_, .map mp, _]) => match Heap.get ((nx, .cells false [.str k, .str m]) :: H) mp with
      | some (.map es) => match mfind true [.s, .s] (.agg [.str k, .str m]) es with
        | some none => some (.tup [.nilptr, .bool false], (nx, .cells false [.str k, .str m]) :: H, nx + 1)
        | some (some (.ptr x 0)) => match Heap.get ((nx, .cells false [.str k, .str m]) :: H) x with
          | some (.cells false [_, _, .int .u64 w, _, _, _, _]) => some (.tup [.ptr x 0, .bool (w == ver)], (nx, .cells false [.str k, .str m]) :: H, nx + 1)
          | _ => none
        | _ => none
      | _ => none
    | _ => none
  | _, _, _ => none
def joinF : HF
  | [.ptr x 0, .ptr t 0], H, nx => match H.get t with
    | some (.cells false [_, _, _, _, _, _, .ptr p 0]) => match H.get x with
      | some (.cells false [k, m, v, s, f, _, b]) => match ((H.put x (.cells false [k, m, v, s, f, .ptr t 0, b])).put x (.cells false [k, m, v, s, f, .ptr t 0, .ptr p 0])).get t with
        | some (.cells false [_, _, _, _, _, _, .ptr p' 0]) => match ((H.put x (.cells false [k, m, v, s, f, .ptr t 0, b])).put x (.cells false [k, m, v, s, f, .ptr t 0, .ptr p 0])).get p' with
          | some (.cells false [k1, m1, v1, s1, f1, _, b1]) => match (((H.put x (.cells false [k, m, v, s, f, .ptr t 0, b])).put x (.cells false [k, m, v, s, f, .ptr t 0, .ptr p 0])).put p' (.cells false [k1, m1, v1, s1, f1, .ptr x 0, b1])).get t with
            | some (.cells false [k2, m2, v2, s2, f2, a2, _]) => some (.tup [], (((H.put x (.cells false [k, m, v, s, f, .ptr t 0, b])).put x (.cells false [k, m, v, s, f, .ptr t 0, .ptr p 0])).put p' (.cells false [k1, m1, v1, s1, f1, .ptr x 0, b1])).put t (.cells false [k2, m2, v2, s2, f2, a2, .ptr x 0]), nx)
            | _ => none
          | _ => none
        | _ => none
      | _ => none
    | _ => none
  | _, _, _ => none
def dropF : HF
  | [.ptr c 0, .ptr x 0], H, nx => match cutF [.ptr x 0] H nx with
    | some (.tup [], H1, n1) => match H1.get c with
      | some (.cells false [_, .map mp, _]) => match H1.get x with
        | some (.cells false [.str k, .str m, _, _, _, _, _]) => match H1.get mp with
          | some (.map es) => match mdel true [.s, .s] (.agg [.str k, .str m]) es with
            | some es' => some (.tup [], H1.put mp (.map es'), n1)
            | none => none
          | _ => none
        | _ => none
      | _ => none
    | _ => none
  | _, _, _ => none
def answF : List AV → Option AV
  | [.agg [.str k, .str m, .int .u64 w, .int .i64 s, .bool f]] => some (match f with
    | true => .tup [.int .i64 s, .int .i64 0]
    | false => .tup [.int .i64 0, .int .i64 14])
  | _ => none
def heldF : HF
  | [.ptr c 0], H, nx => match H.get c with
    | some (.cells false [.ptr _ 0, .map mp, .int .u64 _]) => match H.get mp with
      | some (.map es) => match Nat.ble es.length 9223372036854775807 with
        | true => some (.int .i64 (.ofNat es.length), H, nx)
        | false => none
      | _ => none
    | _ => none
  | _, _, _ => none
def knownF : HF
  | [.ptr c 0, .str k, .str m, .int .u64 ver], H, nx => match noneF [.ptr c 0] H nx with
    | some (.bool false, _, _) => match findF [.ptr c 0, .agg [.str k, .str m], .int .u64 ver] H nx with
      | some (.tup [x, .bool b], H', nx') => some (.bool b, H', nx')
      | _ => none
    | _ => none
  | _, _, _ => none
def newF : HF
  | [], H, nx => some (.ptr (nx + 2) 0, (nx + 2, .cells false [.ptr nx 0, .map (nx + 1), .int .u64 0]) :: (nx + 1, .map []) :: (nx, .cells false [.str [], .str [], .int .u64 0, .int .i64 0, .bool false, .ptr nx 0, .ptr nx 0]) :: H, nx + 3)
  | _, _, _ => none
/-- What is dropped ahead of a put, of the same key. -/
def putA (c : Nat) (k m : List Nat) (H : Heap) (nx : Nat) : Option (Heap × Nat) := match H.get c with
  | some (.cells false [_, .map mp, _]) => match H.get mp with
    | some (.map es) => match mfind true [.s, .s] (.agg [.str k, .str m]) es with
      | some none => some (H, nx)
      | some (some (.ptr x 0)) => match dropF [.ptr c 0, .ptr x 0] H nx with
        | some (.tup [], H1, n1) => some (H1, n1)
        | _ => none
      | _ => none
    | _ => none
  | _ => none
/-- The oldest one is dropped, where there are too many. -/
def putB (c : Nat) (H : Heap) (nx : Nat) : Option (Heap × Nat) := match H.get c with
  | some (.cells false [.ptr r 0, .map mp, _]) => match H.get mp with
    | some (.map es) => match Nat.blt es.length 4096 with
      | true => some (H, nx)
      | false => match Nat.ble es.length 9223372036854775807 with
        | true => match H.get r with
          | some (.cells false [_, _, _, _, _, .ptr a 0, _]) => match dropF [.ptr c 0, .ptr a 0] H nx with
            | some (.tup [], H1, n1) => some (H1, n1)
            | _ => none
          | _ => none
        | false => none
    | _ => none
  | _ => none
/-- The new link. -/
def putC (c b : Nat) (H : Heap) (nx : Nat) : Option (Heap × Nat) := match H.get b with
  | some (.cells false [.str k, .str m, w, s, f]) => match Heap.get ((nx, .cells false [.str k, .str m, w, s, f, .nilptr, .nilptr]) :: H) c with
    | some (.cells false [.ptr r 0, _, _]) => match joinF [.ptr nx 0, .ptr r 0] ((nx, .cells false [.str k, .str m, w, s, f, .nilptr, .nilptr]) :: H) (nx + 1) with
      | some (.tup [], H1, n1) => match H1.get c with
        | some (.cells false [_, .map mp, _]) => match H1.get b with
          | some (.cells false [.str k', .str m', _, _, _]) => match H1.get mp with
            | some (.map es) => match mput true [.s, .s] (.agg [.str k', .str m']) (.ptr nx 0) es with
              | some es' => some (H1.put mp (.map es'), n1)
              | none => none
            | _ => none
          | _ => none
        | _ => none
      | _ => none
    | _ => none
  | _ => none
def putF : HF
  | [.ptr c 0, .agg [.str k, .str m, .int .u64 w, .int .i64 s, .bool f]], H, nx => match putA c k m ((nx, .cells false [.str k, .str m, .int .u64 w, .int .i64 s, .bool f]) :: H) (nx + 1) with
    | some (H1, n1) => match putB c H1 n1 with
      | some (H2, n2) => match putC c nx H2 n2 with
        | some (H3, n3) => some (.tup [], H3, n3)
        | none => none
      | none => none
    | none => none
  | _, _, _ => none
/-- What a call of Score does behind its look-up, where nothing fits. -/
def missF (gS : List AV → Option AV) (c : Nat) (key name : List Nat) (ver : Int) (nv vv : List AV) (H : Heap) (nx : Nat) : Option Out := match gS [.agg nv, .agg vv] with
  | some (.tup [.int .i64 s, .int .i64 e]) => match (e == 0 || e == 14) with
    | true => match putF [.ptr c 0, .agg [.str key, .str name, .int .u64 ver, .int .i64 s, .bool (e == 0)]] H nx with
      | some (.tup [], H1, n1) => some (.tup [.int .i64 s, .int .i64 e], H1, n1)
      | _ => none
    | false => some (.tup [.int .i64 s, .int .i64 e], H, nx)
  | _ => none
def hitF (c x : Nat) (H : Heap) (nx : Nat) : Option Out := match H.get c with
  | some (.cells false [r, m, .int .u64 h]) => match cutF [.ptr x 0] (H.put c (.cells false [r, m, .int .u64 (wrapx .u64 (h + 1))])) nx with
    | some (.tup [], H1, n1) => match H1.get c with
      | some (.cells false [.ptr q 0, _, _]) => match joinF [.ptr x 0, .ptr q 0] H1 n1 with
        | some (.tup [], H2, n2) => match H2.get x with
          | some (.cells false [a, b, w, s, f, _, _]) => match answF [.agg [a, b, w, s, f]] with
            | some (.tup [.int .i64 s', .int .i64 e']) => some (.tup [.int .i64 s', .int .i64 e'], H2, n2)
            | _ => none
          | _ => none
        | _ => none
      | _ => none
    | _ => none
  | _ => none
def scoreF (gS : List AV → Option AV) : HF
  | [.ptr c 0, .str key, .int .u64 ver, .agg nv, .agg (.str name :: vr)], H, nx => match Nat.beq nv.length 8 && Nat.beq vr.length 7 && Nat.ble 1 key.length && Nat.ble key.length 2048 with
    | true => match noneF [.ptr c 0] ((nx + 1, .cells false (.str name :: vr)) :: (nx, .cells false nv) :: H) (nx + 2) with
      | some (.bool false, _, _) => match findF [.ptr c 0, .agg [.str key, .str name], .int .u64 ver] ((nx + 2, .cells false [.str key, .str name]) :: (nx + 1, .cells false (.str name :: vr)) :: (nx, .cells false nv) :: H) (nx + 3) with
        | some (.tup [x, .bool false], H4, n4) => missF gS c key name ver nv (.str name :: vr) H4 n4
        | some (.tup [.ptr x 0, .bool true], H4, n4) => hitF c x H4 n4
        | _ => none
      | _ => none
    | false => none
  | _, _, _ => none
theorem find_heap {a : List AV} {H H' : Heap} {nx n' : Nat} {v : AV} (h : findF a H nx = some (v, H', n')) : ∃ o, H' = (nx, o) :: H ∧ n' = nx + 1 := by
  unfold findF at h
  split at h
  rotate_left
  · cases h
  split at h
  rotate_left
  · cases h
  split at h
  rotate_left
  · cases h
  split at h
  · cases h; exact ⟨_, rfl, rfl⟩
  · split at h
    · cases h; exact ⟨_, rfl, rfl⟩
    · cases h
  · cases h
theorem len8 {l : List AV} (h : l.length = 8) : ∃ a b c d e f g i, l = [a, b, c, d, e, f, g, i] := by
  match l, h with
  | [a, b, c, d, e, f, g, i], _ => exact ⟨_, _, _, _, _, _, _, _, rfl⟩
theorem none_same {c : Nat} {H H0 : Heap} {nx n0 : Nat} {v : AV} (h : noneF [.ptr c 0] H nx = some (v, H0, n0)) : v = .bool false ∧ H0 = H ∧ n0 = nx := by
  simp only [noneF] at h
  split at h
  · cases h; exact ⟨rfl, rfl, rfl⟩
  · cases h
include hm hmix in
theorem none_ok : HeapOK Tryz.prog G 14 noneF := by
  intro args H nx v H' nx' h
  unfold noneF at h
  split at h
  rotate_left
  · cases h
  rename_i c
  split at h
  rotate_left
  · cases h
  rename_i r m hv hc
  cases h
  refine fn_heap fx14 hm hmix callH_nil rfl ?_
  have g0 : (slots 0 (pad x14.nt [AV.ptr c 0])).get 0 = some (.ptr c 0) := rfl
  generalize slots 0 (pad x14.nt [AV.ptr c 0]) = fr0 at g0
  clear hm hmix
  have hl : xload H 1 false (.ptr c 0) = some (.ptr r 0) := by simp only [xload, hc]; rfl
  simp only [x14]
  iterate 1 all_goals (first | with_reducible refine stp ?_ | with_reducible refine B_o rfl ?_ | with_reducible refine A_condT ?_ | with_reducible refine A_condF ?_ | with_reducible refine A_cond2 (fun hc => ?_) (fun hc => ?_) | with_reducible refine A_E ?_ | skip)
  all_goals (with_reducible refine C_reg ?_)
  all_goals (with_reducible refine A_mov ?_)
  all_goals refine O_nil ?_
  iterate 3 all_goals (first | with_reducible refine stp ?_ | with_reducible refine B_o rfl ?_ | with_reducible refine A_condT ?_ | with_reducible refine A_condF ?_ | with_reducible refine A_cond2 (fun hc => ?_) (fun hc => ?_) | with_reducible refine A_E ?_ | skip)
  all_goals (unfold x14_r0)
  all_goals (with_reducible refine C_reg ?_)
  all_goals (with_reducible refine A_mov ?_)
  all_goals (refine A_peq ?_)
  all_goals (with_reducible refine A_mov ?_)
  all_goals (first | with_reducible refine A_gdF ?_ | with_reducible refine A_gdU ?_ | (with_reducible refine A_gdT ?_; (with_reducible refine A_mov ?_)) | (with_reducible refine A_gd2f (fun hc => ?_) (fun hc => ?_); (with_reducible refine A_mov ?_)))
  all_goals (first | with_reducible refine A_gdF ?_ | with_reducible refine A_gdU ?_ | (with_reducible refine A_gdT ?_; (first | with_reducible refine A_nilchkP ?_ | with_reducible refine A_nilchkE ?_ | with_reducible refine A_nilchkI ?_ | with_reducible refine A_nilchkF ?_)) | (with_reducible refine A_gd2f (fun hc => ?_) (fun hc => ?_); (first | with_reducible refine A_nilchkP ?_ | with_reducible refine A_nilchkE ?_ | with_reducible refine A_nilchkI ?_ | with_reducible refine A_nilchkF ?_)))
  all_goals (first | with_reducible refine A_gdF ?_ | with_reducible refine A_gdU ?_ | (with_reducible refine A_gdT ?_; (first | with_reducible refine A_faddrP ?_ | with_reducible refine A_faddrE ?_)) | (with_reducible refine A_gd2f (fun hc => ?_) (fun hc => ?_); (first | with_reducible refine A_faddrP ?_ | with_reducible refine A_faddrE ?_)))
  all_goals (first | with_reducible refine A_gdF ?_ | with_reducible refine A_gdU ?_ | (with_reducible refine A_gdT ?_; (refine A_load ?_)) | (with_reducible refine A_gd2f (fun hc => ?_) (fun hc => ?_); (refine A_load ?_)))
  all_goals (first | with_reducible refine A_gdF ?_ | with_reducible refine A_gdU ?_ | (with_reducible refine A_gdT ?_; (refine A_peq ?_)) | (with_reducible refine A_gd2f (fun hc => ?_) (fun hc => ?_); (refine A_peq ?_)))
  all_goals (first | with_reducible refine A_pickT ?_ | with_reducible refine A_pickF ?_ | with_reducible refine A_pick2 (fun hc => ?_) (fun hc => ?_))
  all_goals (with_reducible refine A_mov ?_)
  all_goals refine O_nil ?_
  iterate 6 all_goals (first | with_reducible refine stp ?_ | with_reducible refine B_o rfl ?_ | with_reducible refine A_condT ?_ | with_reducible refine A_condF ?_ | with_reducible refine A_cond2 (fun hc => ?_) (fun hc => ?_) | with_reducible refine A_E ?_ | skip)
  exact ⟨rfl, rfl, rfl⟩
include hm hmix in
theorem cut_ok : HeapOK Tryz.prog G 16 cutF := by
  intro args H nx v H' nx' h
  unfold cutF at h
  split at h
  rotate_left
  · cases h
  rename_i x
  split at h
  rotate_left
  · cases h
  rename_i k0 m0 v0 s0 f0 a b hx
  split at h
  rotate_left
  · cases h
  rename_i k m w s f p q ha
  split at h
  rotate_left
  · cases h
  rename_i k' m' w' s' f' p' q' hb
  cases h
  refine fn_heap fx16 hm hmix callH_nil rfl ?_
  have g0 : (slots 0 (pad x16.nt [AV.ptr x 0])).get 0 = some (.ptr x 0) := rfl
  generalize slots 0 (pad x16.nt [AV.ptr x 0]) = fr0 at g0
  clear hm hmix
  have hl5 : xload H 1 false (.ptr x (0 + 5)) = some (.ptr a 0) := by simp only [xload, hx]; rfl
  have hl6 : xload H 1 false (.ptr x (0 + 6)) = some (.ptr b 0) := by simp only [xload, hx]; rfl
  simp only [x16]
  all_goals (unfold x16_d0)
  all_goals ((with_reducible apply C_drawM); (focus (with_unfolding_all rfl)); (focus (with_unfolding_all rfl)))
  all_goals (with_reducible refine M_mov ?_)
  all_goals (first | with_reducible refine M_nilchkP ?_ | with_reducible refine M_nilchkE ?_ | with_reducible refine M_nilchkI ?_ | with_reducible refine M_nilchkF ?_)
  all_goals (first | with_reducible refine M_faddrP ?_ | with_reducible refine M_faddrE ?_)
  all_goals (refine M_load ?_)
  all_goals (with_reducible refine M_mov ?_)
  all_goals (first | with_reducible refine M_nilchkP ?_ | with_reducible refine M_nilchkE ?_ | with_reducible refine M_nilchkI ?_ | with_reducible refine M_nilchkF ?_)
  all_goals (first | with_reducible refine M_faddrP ?_ | with_reducible refine M_faddrE ?_)
  all_goals (refine M_load ?_)
  all_goals (with_reducible refine M_mov ?_)
  all_goals (first | with_reducible refine M_nilchkP ?_ | with_reducible refine M_nilchkE ?_ | with_reducible refine M_nilchkI ?_ | with_reducible refine M_nilchkF ?_)
  all_goals (first | with_reducible refine M_faddrP ?_ | with_reducible refine M_faddrE ?_)
  all_goals (refine M_load ?_)
  all_goals (with_reducible refine M_mov ?_)
  all_goals (first | with_reducible refine M_nilchkP ?_ | with_reducible refine M_nilchkE ?_ | with_reducible refine M_nilchkI ?_ | with_reducible refine M_nilchkF ?_)
  all_goals (first | with_reducible refine M_faddrP ?_ | with_reducible refine M_faddrE ?_)
  all_goals (refine M_load ?_)
  all_goals (first | with_reducible refine M_nilchkP ?_ | with_reducible refine M_nilchkE ?_ | with_reducible refine M_nilchkI ?_ | with_reducible refine M_nilchkF ?_)
  all_goals (first | with_reducible refine M_faddrP ?_ | with_reducible refine M_faddrE ?_)
  all_goals (refine M_store ?_)
  all_goals (first | with_reducible refine M_nilchkP ?_ | with_reducible refine M_nilchkE ?_ | with_reducible refine M_nilchkI ?_ | with_reducible refine M_nilchkF ?_)
  all_goals (first | with_reducible refine M_faddrP ?_ | with_reducible refine M_faddrE ?_)
  all_goals (refine M_store ?_)
  all_goals refine M_nil ?_
  iterate 6 all_goals (first | with_reducible refine stp ?_ | with_reducible refine B_o rfl ?_ | with_reducible refine A_condT ?_ | with_reducible refine A_condF ?_ | with_reducible refine A_cond2 (fun hc => ?_) (fun hc => ?_) | with_reducible refine A_E ?_ | skip)
  exact ⟨rfl, rfl, rfl⟩
include hm hmix in
theorem find_ok : HeapOK Tryz.prog G 15 findF := by
  intro args H nx v H' nx' h
  unfold findF at h
  split at h
  rotate_left
  · cases h
  rename_i c k m ver
  generalize hH1 : ((nx, HO.cells false [.str k, .str m]) :: H : Heap) = H1 at h
  split at h
  rotate_left
  · cases h
  rename_i r mp hv hc
  split at h
  rotate_left
  · cases h
  rename_i es hes
  have key : ∀ (q : Option AV) (v : AV) (b : Bool), mfind true [.s, .s] (.agg [.str k, .str m]) es = some q → ((q = none ∧ v = .nilptr ∧ b = false) ∨ ∃ x w a0 a1 a2 a3 a4 a5, q = some (.ptr x 0) ∧ v = .ptr x 0 ∧ b = (w == ver) ∧ Heap.get H1 x = some (.cells false [a0, a1, .int .u64 w, a2, a3, a4, a5])) →
      Sy.Enters Tryz.prog 15 ∧ nx ≤ nx + 1 ∧ FnT Tryz.prog G 15 [.ptr c 0, .agg [.str k, .str m], .int .u64 ver] H nx (.tup [v, .bool b]) H1 (nx + 1) := by
    intro q v b hq hcase
    refine fn_heap (args := [.ptr c 0, .agg [.str k, .str m], .int .u64 ver]) fx15 hm hmix callH_nil rfl ?_
    have g0 : (slots 0 (pad x15.nt [AV.ptr c 0, .agg [.str k, .str m], .int .u64 ver])).get 0 = some (.ptr c 0) := rfl
    have g1 : (slots 0 (pad x15.nt [AV.ptr c 0, .agg [.str k, .str m], .int .u64 ver])).get 1 = some (.agg [.str k, .str m]) := rfl
    have g2 : (slots 0 (pad x15.nt [AV.ptr c 0, .agg [.str k, .str m], .int .u64 ver])).get 2 = some (.int .u64 ver) := rfl
    generalize slots 0 (pad x15.nt [AV.ptr c 0, .agg [.str k, .str m], .int .u64 ver]) = fr0 at g0 g1 g2
    clear hm hmix h
    have hlc : xload H1 1 false (.ptr c (0 + 1)) = some (.map mp) := by simp only [xload, hc]; rfl
    have hlb : xload H1 2 true (.ptr nx 0) = some (.agg [.str k, .str m]) := by subst hH1; simp only [xload, get_cons_self]; rfl
    simp only [x15]
    iterate 1 all_goals (first | with_reducible refine stp ?_ | with_reducible refine B_o rfl ?_ | with_reducible refine A_condT ?_ | with_reducible refine A_condF ?_ | with_reducible refine A_cond2 (fun hc => ?_) (fun hc => ?_) | with_reducible refine A_E ?_ | skip)
    all_goals (with_reducible refine C_reg ?_)
    all_goals (with_reducible refine A_box ?_)
    all_goals (with_reducible refine A_mov ?_)
    all_goals (with_reducible refine A_mov ?_)
    all_goals refine O_nil ?_
    rw [hH1]
    iterate 3 all_goals (first | with_reducible refine stp ?_ | with_reducible refine B_o rfl ?_ | with_reducible refine A_condT ?_ | with_reducible refine A_condF ?_ | with_reducible refine A_cond2 (fun hc => ?_) (fun hc => ?_) | with_reducible refine A_E ?_ | skip)
    rcases hcase with ⟨rfl, rfl, rfl⟩ | ⟨x, w, a0, a1, a2, a3, a4, a5, rfl, rfl, rfl, hx⟩
    · skip
      all_goals (unfold x15_d0)
      all_goals ((with_reducible apply C_drawM); (focus (with_unfolding_all rfl)); (focus (with_unfolding_all rfl)))
      all_goals (with_reducible refine M_mov ?_)
      all_goals (first | with_reducible refine M_nilchkP ?_ | with_reducible refine M_nilchkE ?_ | with_reducible refine M_nilchkI ?_ | with_reducible refine M_nilchkF ?_)
      all_goals (first | with_reducible refine M_faddrP ?_ | with_reducible refine M_faddrE ?_)
      all_goals (refine M_load ?_)
      all_goals (refine M_load ?_)
      all_goals (first | refine M_lookupS ?_ | refine M_lookupN ?_)
      all_goals (with_reducible refine M_mov ?_)
      all_goals refine M_nil ?_
      iterate 3 all_goals (first | with_reducible refine stp ?_ | with_reducible refine B_o rfl ?_ | with_reducible refine A_condT ?_ | with_reducible refine A_condF ?_ | with_reducible refine A_cond2 (fun hc => ?_) (fun hc => ?_) | with_reducible refine A_E ?_ | skip)
      all_goals (unfold x15_d1)
      all_goals ((with_reducible apply C_drawM); (focus (with_unfolding_all rfl)); (focus (with_unfolding_all rfl)))
      all_goals (with_reducible refine M_mov ?_)
      all_goals (with_reducible refine M_mov ?_)
      all_goals (refine M_peq ?_)
      all_goals (with_reducible refine M_mov ?_)
      all_goals (first | with_reducible refine M_gdN' ?_ | with_reducible refine M_gdU' ?_ | (with_reducible refine M_gdT' ?_; (with_reducible refine M_mov ?_)) | (with_reducible refine M_gd2t' (fun hc => ?_) (fun hc => ?_); (with_reducible refine M_mov ?_)))
      all_goals (first | with_reducible refine M_gdN' ?_ | with_reducible refine M_gdU' ?_ | (with_reducible refine M_gdT' ?_; (first | with_reducible refine M_nilchkP ?_ | with_reducible refine M_nilchkE ?_ | with_reducible refine M_nilchkI ?_ | with_reducible refine M_nilchkF ?_)) | (with_reducible refine M_gd2t' (fun hc => ?_) (fun hc => ?_); (first | with_reducible refine M_nilchkP ?_ | with_reducible refine M_nilchkE ?_ | with_reducible refine M_nilchkI ?_ | with_reducible refine M_nilchkF ?_)))
      all_goals (first | with_reducible refine M_gdN' ?_ | with_reducible refine M_gdU' ?_ | (with_reducible refine M_gdT' ?_; (first | with_reducible refine M_faddrP ?_ | with_reducible refine M_faddrE ?_)) | (with_reducible refine M_gd2t' (fun hc => ?_) (fun hc => ?_); (first | with_reducible refine M_faddrP ?_ | with_reducible refine M_faddrE ?_)))
      all_goals (first | with_reducible refine M_gdN' ?_ | with_reducible refine M_gdU' ?_ | (with_reducible refine M_gdT' ?_; (first | with_reducible refine M_faddrP ?_ | with_reducible refine M_faddrE ?_)) | (with_reducible refine M_gd2t' (fun hc => ?_) (fun hc => ?_); (first | with_reducible refine M_faddrP ?_ | with_reducible refine M_faddrE ?_)))
      all_goals (first | with_reducible refine M_gdN' ?_ | with_reducible refine M_gdU' ?_ | (with_reducible refine M_gdT' ?_; (refine M_load ?_)) | (with_reducible refine M_gd2t' (fun hc => ?_) (fun hc => ?_); (refine M_load ?_)))
      all_goals (first | with_reducible refine M_gdN' ?_ | with_reducible refine M_gdU' ?_ | (with_reducible refine M_gdT' ?_; (with_reducible refine M_mov ?_)) | (with_reducible refine M_gd2t' (fun hc => ?_) (fun hc => ?_); (with_reducible refine M_mov ?_)))
      all_goals (first | with_reducible refine M_gdN' ?_ | with_reducible refine M_gdU' ?_ | (with_reducible refine M_gdT' ?_; (refine M_bin ?_)) | (with_reducible refine M_gd2t' (fun hc => ?_) (fun hc => ?_); (refine M_bin ?_)))
      all_goals (first | with_reducible refine M_pickT ?_ | with_reducible refine M_pickF ?_)
      all_goals (with_reducible refine M_mov ?_)
      all_goals (with_reducible refine M_mov ?_)
      all_goals refine M_nil ?_
      iterate 6 all_goals (first | with_reducible refine stp ?_ | with_reducible refine B_o rfl ?_ | with_reducible refine A_condT ?_ | with_reducible refine A_condF ?_ | with_reducible refine A_cond2 (fun hc => ?_) (fun hc => ?_) | with_reducible refine A_E ?_ | skip)
      exact ⟨rfl, rfl, rfl⟩
    · skip
      have hlx : xload H1 1 false (.ptr x (0 + 0 + 2)) = some (.int .u64 w) := by simp only [xload, hx]; rfl
      all_goals (unfold x15_d0)
      all_goals ((with_reducible apply C_drawM); (focus (with_unfolding_all rfl)); (focus (with_unfolding_all rfl)))
      all_goals (with_reducible refine M_mov ?_)
      all_goals (first | with_reducible refine M_nilchkP ?_ | with_reducible refine M_nilchkE ?_ | with_reducible refine M_nilchkI ?_ | with_reducible refine M_nilchkF ?_)
      all_goals (first | with_reducible refine M_faddrP ?_ | with_reducible refine M_faddrE ?_)
      all_goals (refine M_load ?_)
      all_goals (refine M_load ?_)
      all_goals (first | refine M_lookupS ?_ | refine M_lookupN ?_)
      all_goals (with_reducible refine M_mov ?_)
      all_goals refine M_nil ?_
      iterate 3 all_goals (first | with_reducible refine stp ?_ | with_reducible refine B_o rfl ?_ | with_reducible refine A_condT ?_ | with_reducible refine A_condF ?_ | with_reducible refine A_cond2 (fun hc => ?_) (fun hc => ?_) | with_reducible refine A_E ?_ | skip)
      all_goals (unfold x15_d1)
      all_goals ((with_reducible apply C_drawM); (focus (with_unfolding_all rfl)); (focus (with_unfolding_all rfl)))
      all_goals (with_reducible refine M_mov ?_)
      all_goals (with_reducible refine M_mov ?_)
      all_goals (refine M_peq ?_)
      all_goals (with_reducible refine M_mov ?_)
      all_goals (first | with_reducible refine M_gdN' ?_ | with_reducible refine M_gdU' ?_ | (with_reducible refine M_gdT' ?_; (with_reducible refine M_mov ?_)) | (with_reducible refine M_gd2t' (fun hc => ?_) (fun hc => ?_); (with_reducible refine M_mov ?_)))
      all_goals (first | with_reducible refine M_gdN' ?_ | with_reducible refine M_gdU' ?_ | (with_reducible refine M_gdT' ?_; (first | with_reducible refine M_nilchkP ?_ | with_reducible refine M_nilchkE ?_ | with_reducible refine M_nilchkI ?_ | with_reducible refine M_nilchkF ?_)) | (with_reducible refine M_gd2t' (fun hc => ?_) (fun hc => ?_); (first | with_reducible refine M_nilchkP ?_ | with_reducible refine M_nilchkE ?_ | with_reducible refine M_nilchkI ?_ | with_reducible refine M_nilchkF ?_)))
      all_goals (first | with_reducible refine M_gdN' ?_ | with_reducible refine M_gdU' ?_ | (with_reducible refine M_gdT' ?_; (first | with_reducible refine M_faddrP ?_ | with_reducible refine M_faddrE ?_)) | (with_reducible refine M_gd2t' (fun hc => ?_) (fun hc => ?_); (first | with_reducible refine M_faddrP ?_ | with_reducible refine M_faddrE ?_)))
      all_goals (first | with_reducible refine M_gdN' ?_ | with_reducible refine M_gdU' ?_ | (with_reducible refine M_gdT' ?_; (first | with_reducible refine M_faddrP ?_ | with_reducible refine M_faddrE ?_)) | (with_reducible refine M_gd2t' (fun hc => ?_) (fun hc => ?_); (first | with_reducible refine M_faddrP ?_ | with_reducible refine M_faddrE ?_)))
      all_goals (first | with_reducible refine M_gdN' ?_ | with_reducible refine M_gdU' ?_ | (with_reducible refine M_gdT' ?_; (refine M_load ?_)) | (with_reducible refine M_gd2t' (fun hc => ?_) (fun hc => ?_); (refine M_load ?_)))
      all_goals (first | with_reducible refine M_gdN' ?_ | with_reducible refine M_gdU' ?_ | (with_reducible refine M_gdT' ?_; (with_reducible refine M_mov ?_)) | (with_reducible refine M_gd2t' (fun hc => ?_) (fun hc => ?_); (with_reducible refine M_mov ?_)))
      all_goals (first | with_reducible refine M_gdN' ?_ | with_reducible refine M_gdU' ?_ | (with_reducible refine M_gdT' ?_; (refine M_bin ?_)) | (with_reducible refine M_gd2t' (fun hc => ?_) (fun hc => ?_); (refine M_bin ?_)))
      all_goals (first | with_reducible refine M_pickT ?_ | with_reducible refine M_pickF ?_)
      all_goals (with_reducible refine M_mov ?_)
      all_goals (with_reducible refine M_mov ?_)
      all_goals refine M_nil ?_
      iterate 6 all_goals (first | with_reducible refine stp ?_ | with_reducible refine B_o rfl ?_ | with_reducible refine A_condT ?_ | with_reducible refine A_condF ?_ | with_reducible refine A_cond2 (fun hc => ?_) (fun hc => ?_) | with_reducible refine A_E ?_ | skip)
      exact ⟨rfl, rfl, rfl⟩
  split at h
  · rename_i hq
    cases h
    exact key _ _ _ hq (.inl ⟨rfl, rfl, rfl⟩)
  · rename_i x hq
    split at h
    rotate_left
    · cases h
    rename_i hx
    cases h
    exact key _ _ _ hq (.inr ⟨_, _, _, _, _, _, _, _, rfl, rfl, rfl, hx⟩)
  · cases h
include hm hmix in
theorem join_ok : HeapOK Tryz.prog G 17 joinF := by
  intro args H nx v H' nx' h
  unfold joinF at h
  split at h
  rotate_left
  · cases h
  rename_i x t
  split at h
  rotate_left
  · cases h
  rename_i p ht
  split at h
  rotate_left
  · cases h
  rename_i k m w s f a b hx
  have hx1 := get_put_self (o := .cells false [k, m, w, s, f, .ptr t 0, b]) hx
  generalize hH1 : H.put x (.cells false [k, m, w, s, f, .ptr t 0, b]) = H1 at h hx1
  generalize hH2 : H1.put x (.cells false [k, m, w, s, f, .ptr t 0, .ptr p 0]) = H2 at h
  split at h
  rotate_left
  · cases h
  rename_i p' ht2
  split at h
  rotate_left
  · cases h
  rename_i k1 m1 w1 s1 f1 a1 b1 hp2
  generalize hH3 : H2.put p' (.cells false [k1, m1, w1, s1, f1, .ptr x 0, b1]) = H3 at h
  split at h
  rotate_left
  · cases h
  rename_i k2 m2 w2 s2 f2 a2 b2 ht3
  cases h
  refine fn_heap fx17 hm hmix callH_nil rfl ?_
  have g0 : (slots 0 (pad x17.nt [AV.ptr x 0, .ptr t 0])).get 0 = some (.ptr x 0) := rfl
  have g1 : (slots 0 (pad x17.nt [AV.ptr x 0, .ptr t 0])).get 1 = some (.ptr t 0) := rfl
  generalize slots 0 (pad x17.nt [AV.ptr x 0, .ptr t 0]) = fr0 at g0 g1
  clear hm hmix
  have hl1 : xload H 1 false (.ptr t (0 + 6)) = some (.ptr p 0) := by simp only [xload, ht]; rfl
  have hl2 : xload H2 1 false (.ptr t (0 + 6)) = some (.ptr p' 0) := by simp only [xload, ht2]; rfl
  simp only [x17]
  iterate 1 all_goals (first | with_reducible refine stp ?_ | with_reducible refine B_o rfl ?_ | with_reducible refine A_condT ?_ | with_reducible refine A_condF ?_ | with_reducible refine A_cond2 (fun hc => ?_) (fun hc => ?_) | with_reducible refine A_E ?_ | skip)
  all_goals (unfold x17_r0)
  all_goals (with_reducible refine C_reg ?_)
  all_goals (with_reducible refine A_mov ?_)
  all_goals (with_reducible refine A_mov ?_)
  all_goals (with_reducible refine A_mov ?_)
  all_goals (with_reducible refine A_mov ?_)
  all_goals (first | with_reducible refine A_nilchkP ?_ | with_reducible refine A_nilchkE ?_ | with_reducible refine A_nilchkI ?_ | with_reducible refine A_nilchkF ?_)
  all_goals (first | with_reducible refine A_faddrP ?_ | with_reducible refine A_faddrE ?_)
  all_goals (refine A_load ?_)
  all_goals (first | with_reducible refine A_nilchkP ?_ | with_reducible refine A_nilchkE ?_ | with_reducible refine A_nilchkI ?_ | with_reducible refine A_nilchkF ?_)
  all_goals (first | with_reducible refine A_faddrP ?_ | with_reducible refine A_faddrE ?_)
  all_goals (refine A_store ?_)
  all_goals (first | with_reducible refine A_nilchkP ?_ | with_reducible refine A_nilchkE ?_ | with_reducible refine A_nilchkI ?_ | with_reducible refine A_nilchkF ?_)
  all_goals (first | with_reducible refine A_faddrP ?_ | with_reducible refine A_faddrE ?_)
  all_goals (refine A_store ?_)
  all_goals refine O_nil ?_
  iterate 3 all_goals (first | with_reducible refine stp ?_ | with_reducible refine B_o rfl ?_ | with_reducible refine A_condT ?_ | with_reducible refine A_condF ?_ | with_reducible refine A_cond2 (fun hc => ?_) (fun hc => ?_) | with_reducible refine A_E ?_ | skip)
  all_goals (unfold x17_r1)
  all_goals (with_reducible refine C_reg ?_)
  all_goals (with_reducible refine A_mov ?_)
  all_goals (first | with_reducible refine A_nilchkP ?_ | with_reducible refine A_nilchkE ?_ | with_reducible refine A_nilchkI ?_ | with_reducible refine A_nilchkF ?_)
  all_goals (first | with_reducible refine A_faddrP ?_ | with_reducible refine A_faddrE ?_)
  all_goals (refine A_load ?_)
  all_goals (with_reducible refine A_mov ?_)
  all_goals (with_reducible refine A_mov ?_)
  all_goals (with_reducible refine A_mov ?_)
  all_goals (first | with_reducible refine A_nilchkP ?_ | with_reducible refine A_nilchkE ?_ | with_reducible refine A_nilchkI ?_ | with_reducible refine A_nilchkF ?_)
  all_goals (first | with_reducible refine A_faddrP ?_ | with_reducible refine A_faddrE ?_)
  all_goals (refine A_store ?_)
  all_goals (first | with_reducible refine A_nilchkP ?_ | with_reducible refine A_nilchkE ?_ | with_reducible refine A_nilchkI ?_ | with_reducible refine A_nilchkF ?_)
  all_goals (first | with_reducible refine A_faddrP ?_ | with_reducible refine A_faddrE ?_)
  all_goals (refine A_store ?_)
  all_goals refine O_nil ?_
  iterate 6 all_goals (first | with_reducible refine stp ?_ | with_reducible refine B_o rfl ?_ | with_reducible refine A_condT ?_ | with_reducible refine A_condF ?_ | with_reducible refine A_cond2 (fun hc => ?_) (fun hc => ?_) | with_reducible refine A_E ?_ | skip)
  exact ⟨rfl, rfl, rfl⟩
include hm hmix in
theorem drop_ok : HeapOK Tryz.prog G 24 dropF := by
  intro args H nx v H' nx' h
  unfold dropF at h
  split at h
  rotate_left
  · cases h
  rename_i c x
  split at h
  rotate_left
  · cases h
  rename_i H1 n1 hcut
  split at h
  rotate_left
  · cases h
  rename_i r mp hv hc
  split at h
  rotate_left
  · cases h
  rename_i k m _ _ _ _ _ hx
  split at h
  rotate_left
  · cases h
  rename_i es hes
  split at h
  rotate_left
  · cases h
  rename_i es' hd
  cases h
  refine fn_heap fx24 hm hmix (callH_cons (cut_ok hm hmix) callH_nil) rfl ?_
  have hcall : callH [(16, cutF)] 16 [.ptr x 0] H nx = some (.tup [], H1, nx') := hcut
  generalize callH [(16, cutF)] = call at hcall
  have g0 : (slots 0 (pad x24.nt [AV.ptr c 0, .ptr x 0])).get 0 = some (.ptr c 0) := rfl
  have g1 : (slots 0 (pad x24.nt [AV.ptr c 0, .ptr x 0])).get 1 = some (.ptr x 0) := rfl
  generalize slots 0 (pad x24.nt [AV.ptr c 0, .ptr x 0]) = fr0 at g0 g1
  clear hm hmix hcut
  have hl1 : xload H1 1 false (.ptr c (0 + 1)) = some (.map mp) := by simp only [xload, hc]; rfl
  have hl2 : xload H1 2 true (.ptr x (0 + 0 + 0)) = some (.agg [.str k, .str m]) := by simp only [xload, hx]; rfl
  simp only [x24]
  iterate 1 all_goals (first | with_reducible refine stp ?_ | with_reducible refine B_o rfl ?_ | with_reducible refine A_condT ?_ | with_reducible refine A_condF ?_ | with_reducible refine A_cond2 (fun hc => ?_) (fun hc => ?_) | with_reducible refine A_E ?_ | skip)
  all_goals (with_reducible refine C_reg ?_)
  all_goals (with_reducible refine A_mov ?_)
  all_goals (refine A_call ?_)
  all_goals refine O_nil ?_
  iterate 3 all_goals (first | with_reducible refine stp ?_ | with_reducible refine B_o rfl ?_ | with_reducible refine A_condT ?_ | with_reducible refine A_condF ?_ | with_reducible refine A_cond2 (fun hc => ?_) (fun hc => ?_) | with_reducible refine A_E ?_ | skip)
  all_goals (unfold x24_d0)
  all_goals ((with_reducible apply C_drawM); (focus (with_unfolding_all rfl)); (focus (with_unfolding_all rfl)))
  all_goals (with_reducible refine M_mov ?_)
  all_goals (first | with_reducible refine M_nilchkP ?_ | with_reducible refine M_nilchkE ?_ | with_reducible refine M_nilchkI ?_ | with_reducible refine M_nilchkF ?_)
  all_goals (first | with_reducible refine M_faddrP ?_ | with_reducible refine M_faddrE ?_)
  all_goals (refine M_load ?_)
  all_goals (with_reducible refine M_mov ?_)
  all_goals (first | with_reducible refine M_nilchkP ?_ | with_reducible refine M_nilchkE ?_ | with_reducible refine M_nilchkI ?_ | with_reducible refine M_nilchkF ?_)
  all_goals (first | with_reducible refine M_faddrP ?_ | with_reducible refine M_faddrE ?_)
  all_goals (first | with_reducible refine M_faddrP ?_ | with_reducible refine M_faddrE ?_)
  all_goals (refine M_load ?_)
  all_goals (refine M_del ?_)
  all_goals refine M_nil ?_
  iterate 6 all_goals (first | with_reducible refine stp ?_ | with_reducible refine B_o rfl ?_ | with_reducible refine A_condT ?_ | with_reducible refine A_condF ?_ | with_reducible refine A_cond2 (fun hc => ?_) (fun hc => ?_) | with_reducible refine A_E ?_ | skip)
  exact ⟨rfl, rfl, rfl⟩
include hm hmix in
theorem answ_ok (hG : PureG G) : PureOK Tryz.prog G 18 answF := by
  intro args v h
  unfold answF at h
  split at h
  rotate_left
  · cases h
  rename_i k m w s f
  cases h
  refine fn_pure fx18 hG hm hmix callP_nil rfl rfl (by cases f <;> rfl) (WC_W _ (CC.out ?_))
  have g0 : (slots 0 (pad x18.nt [AV.agg [.str k, .str m, .int .u64 w, .int .i64 s, .bool f]])).get 0 = some (AV.agg [.str k, .str m, .int .u64 w, .int .i64 s, .bool f]) := rfl
  generalize slots 0 (pad x18.nt [AV.agg [.str k, .str m, .int .u64 w, .int .i64 s, .bool f]]) = fr0 at g0
  clear hm hmix hG
  simp only [x18]
  cases f with
  | true =>
    iterate 1 all_goals (first | with_reducible refine stp ?_ | with_reducible refine B_o rfl ?_ | with_reducible refine A_condT ?_ | with_reducible refine A_condF ?_ | with_reducible refine A_cond2 (fun hc => ?_) (fun hc => ?_) | with_reducible refine A_E ?_ | skip)
    all_goals (with_reducible refine C_reg ?_)
    all_goals (with_reducible refine A_box ?_)
    all_goals (with_reducible refine A_mov ?_)
    all_goals (with_reducible refine A_mov ?_)
    all_goals refine O_nil ?_
    iterate 3 all_goals (first | with_reducible refine stp ?_ | with_reducible refine B_o rfl ?_ | with_reducible refine A_condT ?_ | with_reducible refine A_condF ?_ | with_reducible refine A_cond2 (fun hc => ?_) (fun hc => ?_) | with_reducible refine A_E ?_ | skip)
    all_goals (with_reducible refine C_reg ?_)
    all_goals (first | with_reducible refine A_faddrP ?_ | with_reducible refine A_faddrE ?_)
    all_goals (refine A_load ?_)
    all_goals (with_reducible refine A_un ?_)
    all_goals refine O_nil ?_
    iterate 8 all_goals (first | with_reducible refine stp ?_ | with_reducible refine B_o rfl ?_ | with_reducible refine A_condT ?_ | with_reducible refine A_condF ?_ | with_reducible refine A_cond2 (fun hc => ?_) (fun hc => ?_) | with_reducible refine A_E ?_ | skip)
    all_goals (unfold x18_r0)
    all_goals (with_reducible refine C_reg ?_)
    all_goals (first | with_reducible refine A_faddrP ?_ | with_reducible refine A_faddrE ?_)
    all_goals (refine A_load ?_)
    all_goals (with_reducible refine A_mov ?_)
    all_goals (with_reducible refine A_mov ?_)
    all_goals refine O_nil ?_
    iterate 6 all_goals (first | with_reducible refine stp ?_ | with_reducible refine B_o rfl ?_ | with_reducible refine A_condT ?_ | with_reducible refine A_condF ?_ | with_reducible refine A_cond2 (fun hc => ?_) (fun hc => ?_) | with_reducible refine A_E ?_ | skip)
    exact ⟨rfl⟩
  | false =>
    iterate 1 all_goals (first | with_reducible refine stp ?_ | with_reducible refine B_o rfl ?_ | with_reducible refine A_condT ?_ | with_reducible refine A_condF ?_ | with_reducible refine A_cond2 (fun hc => ?_) (fun hc => ?_) | with_reducible refine A_E ?_ | skip)
    all_goals (with_reducible refine C_reg ?_)
    all_goals (with_reducible refine A_box ?_)
    all_goals (with_reducible refine A_mov ?_)
    all_goals (with_reducible refine A_mov ?_)
    all_goals refine O_nil ?_
    iterate 3 all_goals (first | with_reducible refine stp ?_ | with_reducible refine B_o rfl ?_ | with_reducible refine A_condT ?_ | with_reducible refine A_condF ?_ | with_reducible refine A_cond2 (fun hc => ?_) (fun hc => ?_) | with_reducible refine A_E ?_ | skip)
    all_goals (with_reducible refine C_reg ?_)
    all_goals (first | with_reducible refine A_faddrP ?_ | with_reducible refine A_faddrE ?_)
    all_goals (refine A_load ?_)
    all_goals (with_reducible refine A_un ?_)
    all_goals refine O_nil ?_
    iterate 8 all_goals (first | with_reducible refine stp ?_ | with_reducible refine B_o rfl ?_ | with_reducible refine A_condT ?_ | with_reducible refine A_condF ?_ | with_reducible refine A_cond2 (fun hc => ?_) (fun hc => ?_) | with_reducible refine A_E ?_ | skip)
    all_goals (with_reducible refine C_reg ?_)
    all_goals (with_reducible refine A_mov ?_)
    all_goals (with_reducible refine A_mov ?_)
    all_goals refine O_nil ?_
    iterate 6 all_goals (first | with_reducible refine stp ?_ | with_reducible refine B_o rfl ?_ | with_reducible refine A_condT ?_ | with_reducible refine A_condF ?_ | with_reducible refine A_cond2 (fun hc => ?_) (fun hc => ?_) | with_reducible refine A_E ?_ | skip)
    exact ⟨rfl⟩
include hm hmix in
theorem held_ok : HeapOK Tryz.prog G 11 heldF := by
  intro args H nx v H' nx' h
  unfold heldF at h
  split at h
  rotate_left
  · cases h
  rename_i c
  split at h
  rotate_left
  · cases h
  rename_i r mp hv hc
  split at h
  rotate_left
  · cases h
  rename_i es hes
  split at h
  rotate_left
  · cases h
  rename_i hle
  cases h
  have hle' := Nat.le_of_ble_eq_true hle
  refine fn_heap fx11 hm hmix (callH_cons (none_ok hm hmix) callH_nil) rfl ?_
  have hcall : callH [(14, noneF)] 14 [.ptr c 0] H nx = some (.bool false, H, nx) := by
    show noneF [.ptr c 0] H nx = _
    simp only [noneF, hc]
  generalize callH [(14, noneF)] = call at hcall
  have g0 : (slots 0 (pad x11.nt [AV.ptr c 0])).get 0 = some (.ptr c 0) := rfl
  generalize slots 0 (pad x11.nt [AV.ptr c 0]) = fr0 at g0
  clear hm hmix hle
  have hl1 : xload H 1 false (.ptr c (0 + 1)) = some (.map mp) := by simp only [xload, hc]; rfl
  simp only [x11]
  iterate 1 all_goals (first | with_reducible refine stp ?_ | with_reducible refine B_o rfl ?_ | with_reducible refine A_condT ?_ | with_reducible refine A_condF ?_ | with_reducible refine A_cond2 (fun hc => ?_) (fun hc => ?_) | with_reducible refine A_E ?_ | skip)
  all_goals (with_reducible refine C_reg ?_)
  all_goals (with_reducible refine A_mov ?_)
  all_goals refine O_nil ?_
  iterate 3 all_goals (first | with_reducible refine stp ?_ | with_reducible refine B_o rfl ?_ | with_reducible refine A_condT ?_ | with_reducible refine A_condF ?_ | with_reducible refine A_cond2 (fun hc => ?_) (fun hc => ?_) | with_reducible refine A_E ?_ | skip)
  all_goals (with_reducible refine C_reg ?_)
  all_goals (with_reducible refine A_mov ?_)
  all_goals (refine A_call ?_)
  all_goals refine O_nil ?_
  iterate 6 all_goals (first | with_reducible refine stp ?_ | with_reducible refine B_o rfl ?_ | with_reducible refine A_condT ?_ | with_reducible refine A_condF ?_ | with_reducible refine A_cond2 (fun hc => ?_) (fun hc => ?_) | with_reducible refine A_E ?_ | skip)
  all_goals (unfold x11_r0)
  all_goals (with_reducible refine C_reg ?_)
  all_goals (with_reducible refine A_mov ?_)
  all_goals (first | with_reducible refine A_nilchkP ?_ | with_reducible refine A_nilchkE ?_ | with_reducible refine A_nilchkI ?_ | with_reducible refine A_nilchkF ?_)
  all_goals (first | with_reducible refine A_faddrP ?_ | with_reducible refine A_faddrE ?_)
  all_goals (refine A_load ?_)
  all_goals (refine A_lenM ?_)
  all_goals (with_reducible refine A_mov ?_)
  all_goals refine O_nil ?_
  iterate 6 all_goals (first | with_reducible refine stp ?_ | with_reducible refine B_o rfl ?_ | with_reducible refine A_condT ?_ | with_reducible refine A_condF ?_ | with_reducible refine A_cond2 (fun hc => ?_) (fun hc => ?_) | with_reducible refine A_E ?_ | skip)
  exact ⟨rfl, rfl, rfl⟩
include hm hmix in
theorem known_ok : HeapOK Tryz.prog G 12 knownF := by
  intro args H nx v H' nx' h
  unfold knownF at h
  split at h
  rotate_left
  · cases h
  rename_i c k m ver
  split at h
  rotate_left
  · cases h
  rename_i H0 n0 hnone
  split at h
  rotate_left
  · cases h
  rename_i x b H1 n1 hfind
  cases h
  refine fn_heap fx12 hm hmix (callH_cons (none_ok hm hmix) (callH_cons (find_ok hm hmix) callH_nil)) rfl ?_
  have hcall : callH [(14, noneF), (15, findF)] 14 [.ptr c 0] H nx = some (.bool false, H, nx) := by
    obtain ⟨_, h2, h3⟩ := none_same hnone
    rw [h2, h3] at hnone
    exact hnone
  have hcall2 : callH [(14, noneF), (15, findF)] 15 [.ptr c 0, .agg [.str k, .str m], .int .u64 ver] H nx = some (.tup [x, .bool b], H', nx') := hfind
  generalize callH [(14, noneF), (15, findF)] = call at hcall hcall2
  have g0 : (slots 0 (pad x12.nt [AV.ptr c 0, .str k, .str m, .int .u64 ver])).get 0 = some (.ptr c 0) := rfl
  have g1 : (slots 0 (pad x12.nt [AV.ptr c 0, .str k, .str m, .int .u64 ver])).get 1 = some (.str k) := rfl
  have g2 : (slots 0 (pad x12.nt [AV.ptr c 0, .str k, .str m, .int .u64 ver])).get 2 = some (.str m) := rfl
  have g3 : (slots 0 (pad x12.nt [AV.ptr c 0, .str k, .str m, .int .u64 ver])).get 3 = some (.int .u64 ver) := rfl
  generalize slots 0 (pad x12.nt [AV.ptr c 0, .str k, .str m, .int .u64 ver]) = fr0 at g0 g1 g2 g3
  clear hm hmix hfind hnone
  simp only [x12]
  iterate 1 all_goals (first | with_reducible refine stp ?_ | with_reducible refine B_o rfl ?_ | with_reducible refine A_condT ?_ | with_reducible refine A_condF ?_ | with_reducible refine A_cond2 (fun hc => ?_) (fun hc => ?_) | with_reducible refine A_E ?_ | skip)
  all_goals (with_reducible refine C_reg ?_)
  all_goals (with_reducible refine A_mov ?_)
  all_goals refine O_nil ?_
  iterate 3 all_goals (first | with_reducible refine stp ?_ | with_reducible refine B_o rfl ?_ | with_reducible refine A_condT ?_ | with_reducible refine A_condF ?_ | with_reducible refine A_cond2 (fun hc => ?_) (fun hc => ?_) | with_reducible refine A_E ?_ | skip)
  all_goals (with_reducible refine C_reg ?_)
  all_goals (with_reducible refine A_mov ?_)
  all_goals (refine A_call ?_)
  all_goals refine O_nil ?_
  iterate 6 all_goals (first | with_reducible refine stp ?_ | with_reducible refine B_o rfl ?_ | with_reducible refine A_condT ?_ | with_reducible refine A_condF ?_ | with_reducible refine A_cond2 (fun hc => ?_) (fun hc => ?_) | with_reducible refine A_E ?_ | skip)
  all_goals (unfold x12_r0)
  all_goals (with_reducible refine C_reg ?_)
  all_goals (with_reducible refine A_mov ?_)
  all_goals (with_reducible refine A_mov ?_)
  all_goals (with_reducible refine A_mov ?_)
  all_goals (with_reducible refine A_build ?_)
  all_goals (with_reducible refine A_mov ?_)
  all_goals (refine A_call ?_)
  all_goals (with_reducible refine A_mov ?_)
  all_goals (with_reducible refine A_ext ?_)
  all_goals (with_reducible refine A_ext ?_)
  all_goals (with_reducible refine A_mov ?_)
  all_goals (with_reducible refine A_mov ?_)
  all_goals refine O_nil ?_
  iterate 3 all_goals (first | with_reducible refine stp ?_ | with_reducible refine B_o rfl ?_ | with_reducible refine A_condT ?_ | with_reducible refine A_condF ?_ | with_reducible refine A_cond2 (fun hc => ?_) (fun hc => ?_) | with_reducible refine A_E ?_ | skip)
  all_goals (with_reducible refine C_reg ?_)
  all_goals (with_reducible refine A_mov ?_)
  all_goals (with_reducible refine A_mov ?_)
  all_goals refine O_nil ?_
  iterate 6 all_goals (first | with_reducible refine stp ?_ | with_reducible refine B_o rfl ?_ | with_reducible refine A_condT ?_ | with_reducible refine A_condF ?_ | with_reducible refine A_cond2 (fun hc => ?_) (fun hc => ?_) | with_reducible refine A_E ?_ | skip)
  exact ⟨rfl, rfl, rfl⟩
include hm hmix in
theorem new_ok : HeapOK Tryz.prog G 6 newF := by
  intro args H nx v H' nx' h
  unfold newF at h
  split at h
  rotate_left
  · cases h
  cases h
  refine fn_heap fx6 hm hmix callH_nil rfl ?_
  generalize slots 0 (pad x6.nt []) = fr0
  clear hm hmix
  simp only [x6]
  iterate 1 all_goals (first | with_reducible refine stp ?_ | with_reducible refine B_o rfl ?_ | with_reducible refine A_condT ?_ | with_reducible refine A_condF ?_ | with_reducible refine A_cond2 (fun hc => ?_) (fun hc => ?_) | with_reducible refine A_E ?_ | skip)
  all_goals (with_reducible refine C_reg ?_)
  all_goals (with_reducible refine A_mov ?_)
  all_goals refine O_nil ?_
  iterate 3 all_goals (first | with_reducible refine stp ?_ | with_reducible refine B_o rfl ?_ | with_reducible refine A_condT ?_ | with_reducible refine A_condF ?_ | with_reducible refine A_cond2 (fun hc => ?_) (fun hc => ?_) | with_reducible refine A_E ?_ | skip)
  all_goals (with_reducible refine C_reg ?_)
  all_goals (with_reducible refine A_build ?_)
  all_goals (with_reducible refine A_box ?_)
  all_goals (with_reducible refine A_mov ?_)
  all_goals refine O_nil ?_
  iterate 3 all_goals (first | with_reducible refine stp ?_ | with_reducible refine B_o rfl ?_ | with_reducible refine A_condT ?_ | with_reducible refine A_condF ?_ | with_reducible refine A_cond2 (fun hc => ?_) (fun hc => ?_) | with_reducible refine A_E ?_ | skip)
  all_goals (unfold x6_r0)
  all_goals (with_reducible refine C_reg ?_)
  all_goals (with_reducible refine A_mov ?_)
  all_goals (with_reducible refine A_mov ?_)
  all_goals (with_reducible refine A_mov ?_)
  all_goals (with_reducible refine A_mov ?_)
  all_goals (first | with_reducible refine A_nilchkP ?_ | with_reducible refine A_nilchkE ?_ | with_reducible refine A_nilchkI ?_ | with_reducible refine A_nilchkF ?_)
  all_goals (first | with_reducible refine A_faddrP ?_ | with_reducible refine A_faddrE ?_)
  all_goals (refine A_store ?_)
  all_goals (first | with_reducible refine A_nilchkP ?_ | with_reducible refine A_nilchkE ?_ | with_reducible refine A_nilchkI ?_ | with_reducible refine A_nilchkF ?_)
  all_goals (first | with_reducible refine A_faddrP ?_ | with_reducible refine A_faddrE ?_)
  all_goals (refine A_store ?_)
  all_goals refine O_nil ?_
  iterate 3 all_goals (first | with_reducible refine stp ?_ | with_reducible refine B_o rfl ?_ | with_reducible refine A_condT ?_ | with_reducible refine A_condF ?_ | with_reducible refine A_cond2 (fun hc => ?_) (fun hc => ?_) | with_reducible refine A_E ?_ | skip)
  all_goals (unfold x6_r1)
  all_goals (with_reducible refine C_reg ?_)
  all_goals (with_reducible refine A_mov ?_)
  all_goals (with_reducible refine A_mkmap ?_)
  all_goals (with_reducible refine A_build ?_)
  all_goals (with_reducible refine A_box ?_)
  all_goals (with_reducible refine A_mov ?_)
  all_goals refine O_nil ?_
  iterate 6 all_goals (first | with_reducible refine stp ?_ | with_reducible refine B_o rfl ?_ | with_reducible refine A_condT ?_ | with_reducible refine A_condF ?_ | with_reducible refine A_cond2 (fun hc => ?_) (fun hc => ?_) | with_reducible refine A_E ?_ | skip)
  exact ⟨rfl, rfl, rfl⟩
include hm hmix in
theorem put_ok : HeapOK Tryz.prog G 20 putF := by
  intro args H nx v H' nx' h
  unfold putF at h
  split at h
  rotate_left
  · cases h
  rename_i c k m w s f
  split at h
  rotate_left
  · cases h
  rename_i H1 n1 hA
  split at h
  rotate_left
  · cases h
  rename_i H2 n2 hB
  split at h
  rotate_left
  · cases h
  rename_i H3 n3 hC
  cases h
  have hcallOK := callH_cons (drop_ok (G := G) hm hmix) (callH_cons (join_ok hm hmix) callH_nil)
  refine fn_heap fx20 hm hmix hcallOK rfl ?_
  have hdrop : ∀ a H nx, callH [(24, dropF), (17, joinF)] 24 a H nx = dropF a H nx := fun a H nx => rfl
  have hjoin : ∀ a H nx, callH [(24, dropF), (17, joinF)] 17 a H nx = joinF a H nx := fun a H nx => rfl
  generalize callH [(24, dropF), (17, joinF)] = call at hdrop hjoin
  have g0 : (slots 0 (pad x20.nt [AV.ptr c 0, .agg [.str k, .str m, .int .u64 w, .int .i64 s, .bool f]])).get 0 = some (.ptr c 0) := rfl
  have g1 : (slots 0 (pad x20.nt [AV.ptr c 0, .agg [.str k, .str m, .int .u64 w, .int .i64 s, .bool f]])).get 1 = some (.agg [.str k, .str m, .int .u64 w, .int .i64 s, .bool f]) := rfl
  generalize slots 0 (pad x20.nt [AV.ptr c 0, .agg [.str k, .str m, .int .u64 w, .int .i64 s, .bool f]]) = fr0 at g0 g1
  clear hm hmix hcallOK
  simp only [x20]
  iterate 1 all_goals (first | with_reducible refine stp ?_ | with_reducible refine B_o rfl ?_ | with_reducible refine A_condT ?_ | with_reducible refine A_condF ?_ | with_reducible refine A_cond2 (fun hc => ?_) (fun hc => ?_) | with_reducible refine A_E ?_ | skip)
  all_goals (with_reducible refine C_reg ?_)
  all_goals (with_reducible refine A_box ?_)
  all_goals refine O_nil ?_
  have hb0 : xload ((nx, HO.cells false [.str k, .str m, .int .u64 w, .int .i64 s, .bool f]) :: H) 2 true (.ptr nx (0 + 0)) = some (.agg [.str k, .str m]) := by simp only [xload, get_cons_self]; rfl
  generalize hH0 : ((nx, HO.cells false [.str k, .str m, .int .u64 w, .int .i64 s, .bool f]) :: H) = H0 at hA hb0
  iterate 1 all_goals (first | with_reducible refine stp ?_ | with_reducible refine B_o rfl ?_ | with_reducible refine A_condT ?_ | with_reducible refine A_condF ?_ | with_reducible refine A_cond2 (fun hc => ?_) (fun hc => ?_) | with_reducible refine A_E ?_ | skip)
  with_reducible refine C_seq ?_
  with_reducible refine C_cutN (fun fr A n => fr.get 0 = some (.ptr c 0) ∧ fr.get 3 = some (.ptr nx 0) ∧ A = H1 ∧ n = n1) ?_ ?_
  · unfold putA at hA
    split at hA
    rotate_left
    · cases hA
    rename_i r mp hv hc
    split at hA
    rotate_left
    · cases hA
    rename_i es hes
    have hlc : xload H0 1 false (.ptr c (0 + 1)) = some (.map mp) := by simp only [xload]; rw [hc]; rfl
    split at hA
    · rename_i hq
      cases hA
      iterate 1 all_goals (first | with_reducible refine stp ?_ | with_reducible refine B_o rfl ?_ | with_reducible refine A_condT ?_ | with_reducible refine A_condF ?_ | with_reducible refine A_cond2 (fun hc => ?_) (fun hc => ?_) | with_reducible refine A_E ?_ | skip)
      all_goals (unfold x20_d0)
      all_goals ((with_reducible apply C_drawM); (focus (with_unfolding_all rfl)); (focus (with_unfolding_all rfl)))
      all_goals (with_reducible refine M_mov ?_)
      all_goals (first | with_reducible refine M_nilchkP ?_ | with_reducible refine M_nilchkE ?_ | with_reducible refine M_nilchkI ?_ | with_reducible refine M_nilchkF ?_)
      all_goals (first | with_reducible refine M_faddrP ?_ | with_reducible refine M_faddrE ?_)
      all_goals (refine M_load ?_)
      all_goals (first | with_reducible refine M_faddrP ?_ | with_reducible refine M_faddrE ?_)
      all_goals (refine M_load ?_)
      all_goals (first | refine M_lookupS ?_ | refine M_lookupN ?_)
      all_goals (with_reducible refine M_mov ?_)
      all_goals refine M_nil ?_
      iterate 3 all_goals (first | with_reducible refine stp ?_ | with_reducible refine B_o rfl ?_ | with_reducible refine A_condT ?_ | with_reducible refine A_condF ?_ | with_reducible refine A_cond2 (fun hc => ?_) (fun hc => ?_) | with_reducible refine A_E ?_ | skip)
      all_goals (with_reducible refine C_reg ?_)
      all_goals (with_reducible refine A_mov ?_)
      all_goals (refine A_peq ?_)
      all_goals refine O_nil ?_
      iterate 6 all_goals (first | with_reducible refine stp ?_ | with_reducible refine B_o rfl ?_ | with_reducible refine A_condT ?_ | with_reducible refine A_condF ?_ | with_reducible refine A_cond2 (fun hc => ?_) (fun hc => ?_) | with_reducible refine A_E ?_ | skip)
      refine ⟨?_, ?_, rfl, rfl⟩
      · simp only [putd_some, Fr.get_put, reduceIte, Nat.reduceEqDiff, g0]
      · simp only [putd_some, Fr.get_put, reduceIte, Nat.reduceEqDiff]
    · rename_i x hq
      split at hA
      rotate_left
      · cases hA
      rename_i H9 n9 hd
      cases hA
      have hd' : call 24 [.ptr c 0, .ptr x 0] H0 (nx + 1) = some (.tup [], H1, n1) := (hdrop _ _ _).trans hd
      iterate 1 all_goals (first | with_reducible refine stp ?_ | with_reducible refine B_o rfl ?_ | with_reducible refine A_condT ?_ | with_reducible refine A_condF ?_ | with_reducible refine A_cond2 (fun hc => ?_) (fun hc => ?_) | with_reducible refine A_E ?_ | skip)
      all_goals (unfold x20_d0)
      all_goals ((with_reducible apply C_drawM); (focus (with_unfolding_all rfl)); (focus (with_unfolding_all rfl)))
      all_goals (with_reducible refine M_mov ?_)
      all_goals (first | with_reducible refine M_nilchkP ?_ | with_reducible refine M_nilchkE ?_ | with_reducible refine M_nilchkI ?_ | with_reducible refine M_nilchkF ?_)
      all_goals (first | with_reducible refine M_faddrP ?_ | with_reducible refine M_faddrE ?_)
      all_goals (refine M_load ?_)
      all_goals (first | with_reducible refine M_faddrP ?_ | with_reducible refine M_faddrE ?_)
      all_goals (refine M_load ?_)
      all_goals (first | refine M_lookupS ?_ | refine M_lookupN ?_)
      all_goals (with_reducible refine M_mov ?_)
      all_goals refine M_nil ?_
      iterate 3 all_goals (first | with_reducible refine stp ?_ | with_reducible refine B_o rfl ?_ | with_reducible refine A_condT ?_ | with_reducible refine A_condF ?_ | with_reducible refine A_cond2 (fun hc => ?_) (fun hc => ?_) | with_reducible refine A_E ?_ | skip)
      all_goals (with_reducible refine C_reg ?_)
      all_goals (with_reducible refine A_mov ?_)
      all_goals (refine A_peq ?_)
      all_goals refine O_nil ?_
      iterate 6 all_goals (first | with_reducible refine stp ?_ | with_reducible refine B_o rfl ?_ | with_reducible refine A_condT ?_ | with_reducible refine A_condF ?_ | with_reducible refine A_cond2 (fun hc => ?_) (fun hc => ?_) | with_reducible refine A_E ?_ | skip)
      all_goals (with_reducible refine C_reg ?_)
      all_goals (with_reducible refine A_mov ?_)
      all_goals (with_reducible refine A_mov ?_)
      all_goals (refine A_call ?_)
      all_goals refine O_nil ?_
      iterate 6 all_goals (first | with_reducible refine stp ?_ | with_reducible refine B_o rfl ?_ | with_reducible refine A_condT ?_ | with_reducible refine A_condF ?_ | with_reducible refine A_cond2 (fun hc => ?_) (fun hc => ?_) | with_reducible refine A_E ?_ | skip)
      refine ⟨?_, ?_, rfl, rfl⟩
      · simp only [putd_some, putd_none, Fr.get_put, reduceIte, Nat.reduceEqDiff, g0]
      · simp only [putd_some, putd_none, Fr.get_put, reduceIte, Nat.reduceEqDiff]
    · cases hA
  rintro fr A n ⟨g0, g3, rfl, rfl⟩
  clear hA hb0 hH0 g1
  iterate 1 all_goals (first | with_reducible refine stp ?_ | with_reducible refine B_o rfl ?_ | with_reducible refine A_condT ?_ | with_reducible refine A_condF ?_ | with_reducible refine A_cond2 (fun hc => ?_) (fun hc => ?_) | with_reducible refine A_E ?_ | skip)
  with_reducible refine C_cutN (fun fr A n => fr.get 0 = some (.ptr c 0) ∧ fr.get 3 = some (.ptr nx 0) ∧ A = H2 ∧ n = n2) ?_ ?_
  · unfold putB at hB
    split at hB
    rotate_left
    · cases hB
    rename_i r mp hv hc
    split at hB
    rotate_left
    · cases hB
    rename_i es hes
    have hlc : xload A 1 false (.ptr c (0 + 1)) = some (.map mp) := by simp only [xload]; rw [hc]; rfl
    split at hB
    · rename_i hlt
      cases hB
      have hlt' : es.length < 4096 := by simpa [Nat.blt_eq] using hlt
      have hmax : es.length ≤ 9223372036854775807 := by omega
      have hge : decide (Int.ofNat es.length ≥ 4096) = false := by simp only [decide_eq_false_iff_not, Int.ofNat_eq_natCast]; omega
      iterate 1 all_goals (first | with_reducible refine stp ?_ | with_reducible refine B_o rfl ?_ | with_reducible refine A_condT ?_ | with_reducible refine A_condF ?_ | with_reducible refine A_cond2 (fun hc => ?_) (fun hc => ?_) | with_reducible refine A_E ?_ | skip)
      all_goals (unfold x20_r1)
      all_goals (with_reducible refine C_reg ?_)
      all_goals (with_reducible refine A_mov ?_)
      all_goals (first | with_reducible refine A_nilchkP ?_ | with_reducible refine A_nilchkE ?_ | with_reducible refine A_nilchkI ?_ | with_reducible refine A_nilchkF ?_)
      all_goals (first | with_reducible refine A_faddrP ?_ | with_reducible refine A_faddrE ?_)
      all_goals (refine A_load ?_)
      all_goals (refine A_lenM ?_)
      all_goals (refine A_bin ?_)
      all_goals refine O_nil ?_
      iterate 6 all_goals (first | with_reducible refine stp ?_ | with_reducible refine B_o rfl ?_ | with_reducible refine A_condT ?_ | with_reducible refine A_condF ?_ | with_reducible refine A_cond2 (fun hc => ?_) (fun hc => ?_) | with_reducible refine A_E ?_ | skip)
      refine ⟨?_, ?_, rfl, rfl⟩
      · simp only [putd_some, Fr.get_put, reduceIte, Nat.reduceEqDiff, g0]
      · simp only [putd_some, Fr.get_put, reduceIte, Nat.reduceEqDiff, g3]
    · rename_i hlt
      split at hB
      rotate_left
      · cases hB
      rename_i hle
      have hmax := Nat.le_of_ble_eq_true hle
      have hlt' : 4096 ≤ es.length := by
        rcases Nat.lt_or_ge es.length 4096 with h1 | h1
        · have : Nat.blt es.length 4096 = true := by rw [Nat.blt_eq]; exact h1
          rw [this] at hlt; cases hlt
        · exact h1
      have hge : decide (Int.ofNat es.length ≥ 4096) = true := by simp only [decide_eq_true_eq, Int.ofNat_eq_natCast]; omega
      split at hB
      rotate_left
      · cases hB
      rename_i a _ hr
      split at hB
      rotate_left
      · cases hB
      rename_i H9 n9 hd
      cases hB
      have hd' : call 24 [.ptr c 0, .ptr a 0] A n = some (.tup [], H2, n2) := (hdrop _ _ _).trans hd
      have hlr : xload A 1 false (.ptr c (0 + 0)) = some (.ptr r 0) := by simp only [xload]; rw [hc]; rfl
      have hla : xload A 1 false (.ptr r (0 + 5)) = some (.ptr a 0) := by simp only [xload]; rw [hr]; rfl
      iterate 1 all_goals (first | with_reducible refine stp ?_ | with_reducible refine B_o rfl ?_ | with_reducible refine A_condT ?_ | with_reducible refine A_condF ?_ | with_reducible refine A_cond2 (fun hc => ?_) (fun hc => ?_) | with_reducible refine A_E ?_ | skip)
      all_goals (unfold x20_r1)
      all_goals (with_reducible refine C_reg ?_)
      all_goals (with_reducible refine A_mov ?_)
      all_goals (first | with_reducible refine A_nilchkP ?_ | with_reducible refine A_nilchkE ?_ | with_reducible refine A_nilchkI ?_ | with_reducible refine A_nilchkF ?_)
      all_goals (first | with_reducible refine A_faddrP ?_ | with_reducible refine A_faddrE ?_)
      all_goals (refine A_load ?_)
      all_goals (refine A_lenM ?_)
      all_goals (refine A_bin ?_)
      all_goals refine O_nil ?_
      iterate 6 all_goals (first | with_reducible refine stp ?_ | with_reducible refine B_o rfl ?_ | with_reducible refine A_condT ?_ | with_reducible refine A_condF ?_ | with_reducible refine A_cond2 (fun hc => ?_) (fun hc => ?_) | with_reducible refine A_E ?_ | skip)
      all_goals (unfold x20_r2)
      all_goals (with_reducible refine C_reg ?_)
      all_goals (with_reducible refine A_mov ?_)
      all_goals (with_reducible refine A_mov ?_)
      all_goals (first | with_reducible refine A_nilchkP ?_ | with_reducible refine A_nilchkE ?_ | with_reducible refine A_nilchkI ?_ | with_reducible refine A_nilchkF ?_)
      all_goals (first | with_reducible refine A_faddrP ?_ | with_reducible refine A_faddrE ?_)
      all_goals (refine A_load ?_)
      all_goals (first | with_reducible refine A_nilchkP ?_ | with_reducible refine A_nilchkE ?_ | with_reducible refine A_nilchkI ?_ | with_reducible refine A_nilchkF ?_)
      all_goals (first | with_reducible refine A_faddrP ?_ | with_reducible refine A_faddrE ?_)
      all_goals (refine A_load ?_)
      all_goals (refine A_call ?_)
      all_goals refine O_nil ?_
      iterate 6 all_goals (first | with_reducible refine stp ?_ | with_reducible refine B_o rfl ?_ | with_reducible refine A_condT ?_ | with_reducible refine A_condF ?_ | with_reducible refine A_cond2 (fun hc => ?_) (fun hc => ?_) | with_reducible refine A_E ?_ | skip)
      refine ⟨?_, ?_, rfl, rfl⟩
      · simp only [putd_some, putd_none, Fr.get_put, reduceIte, Nat.reduceEqDiff, g0]
      · simp only [putd_some, putd_none, Fr.get_put, reduceIte, Nat.reduceEqDiff, g3]
  clear hB g0 g3
  rintro fr A n ⟨g0, g3, rfl, rfl⟩
  unfold putC at hC
  split at hC
  rotate_left
  · cases hC
  rename_i k1 m1 w1 s1 f1 hb
  have hlb : xload A 5 true (.ptr nx 0) = some (.agg [.str k1, .str m1, w1, s1, f1]) := by simp only [xload]; rw [hb]; rfl
  generalize hL : ((n, HO.cells false [.str k1, .str m1, w1, s1, f1, .nilptr, .nilptr]) :: A : List (Nat × HO)) = L at hC
  split at hC
  rotate_left
  · cases hC
  rename_i r _ _ hc
  split at hC
  rotate_left
  · cases hC
  rename_i H9 n9 hj
  split at hC
  rotate_left
  · cases hC
  rename_i mp _ hc2
  split at hC
  rotate_left
  · cases hC
  rename_i k2 m2 _ _ _ hb2
  split at hC
  rotate_left
  · cases hC
  rename_i es hes
  split at hC
  rotate_left
  · cases hC
  rename_i es' hput
  cases hC
  have hj' : call 17 [.ptr n 0, .ptr r 0] L (n + 1) = some (.tup [], H9, nx') := (hjoin _ _ _).trans hj
  have hlr : xload L 1 false (.ptr c (0 + 0)) = some (.ptr r 0) := by simp only [xload]; rw [hc]; rfl
  have hlm : xload H9 1 false (.ptr c (0 + 1)) = some (.map mp) := by simp only [xload]; rw [hc2]; rfl
  have hlk : xload H9 2 true (.ptr nx (0 + 0)) = some (.agg [.str k2, .str m2]) := by simp only [xload]; rw [hb2]; rfl
  iterate 1 all_goals (first | with_reducible refine stp ?_ | with_reducible refine B_o rfl ?_ | with_reducible refine A_condT ?_ | with_reducible refine A_condF ?_ | with_reducible refine A_cond2 (fun hc => ?_) (fun hc => ?_) | with_reducible refine A_E ?_ | skip)
  all_goals (unfold x20_r3)
  all_goals (with_reducible refine C_reg ?_)
  all_goals (refine A_load ?_)
  all_goals (with_reducible refine A_build ?_)
  all_goals (with_reducible refine A_box ?_)
  all_goals (with_reducible refine A_mov ?_)
  all_goals refine O_nil ?_
  rw [hL]
  iterate 3 all_goals (first | with_reducible refine stp ?_ | with_reducible refine B_o rfl ?_ | with_reducible refine A_condT ?_ | with_reducible refine A_condF ?_ | with_reducible refine A_cond2 (fun hc => ?_) (fun hc => ?_) | with_reducible refine A_E ?_ | skip)
  all_goals (unfold x20_r4)
  all_goals (with_reducible refine C_reg ?_)
  all_goals (with_reducible refine A_mov ?_)
  all_goals (with_reducible refine A_mov ?_)
  all_goals (first | with_reducible refine A_nilchkP ?_ | with_reducible refine A_nilchkE ?_ | with_reducible refine A_nilchkI ?_ | with_reducible refine A_nilchkF ?_)
  all_goals (first | with_reducible refine A_faddrP ?_ | with_reducible refine A_faddrE ?_)
  all_goals (refine A_load ?_)
  all_goals (refine A_call ?_)
  all_goals refine O_nil ?_
  iterate 3 all_goals (first | with_reducible refine stp ?_ | with_reducible refine B_o rfl ?_ | with_reducible refine A_condT ?_ | with_reducible refine A_condF ?_ | with_reducible refine A_cond2 (fun hc => ?_) (fun hc => ?_) | with_reducible refine A_E ?_ | skip)
  all_goals (unfold x20_d5)
  all_goals ((with_reducible apply C_drawM); (focus (with_unfolding_all rfl)); (focus (with_unfolding_all rfl)))
  all_goals (with_reducible refine M_mov ?_)
  all_goals (first | with_reducible refine M_nilchkP ?_ | with_reducible refine M_nilchkE ?_ | with_reducible refine M_nilchkI ?_ | with_reducible refine M_nilchkF ?_)
  all_goals (first | with_reducible refine M_faddrP ?_ | with_reducible refine M_faddrE ?_)
  all_goals (refine M_load ?_)
  all_goals (first | with_reducible refine M_faddrP ?_ | with_reducible refine M_faddrE ?_)
  all_goals (refine M_load ?_)
  all_goals (with_reducible refine M_mov ?_)
  all_goals (refine M_mupd ?_)
  all_goals refine M_nil ?_
  iterate 6 all_goals (first | with_reducible refine stp ?_ | with_reducible refine B_o rfl ?_ | with_reducible refine A_condT ?_ | with_reducible refine A_condF ?_ | with_reducible refine A_cond2 (fun hc => ?_) (fun hc => ?_) | with_reducible refine A_E ?_ | skip)
  exact ⟨rfl, rfl, rfl⟩
include hm hmix in
theorem score_ok (hG : PureG G) {gS : List AV → Option AV} (hS : PureOK Tryz.prog G 19 gS) : HeapOK Tryz.prog G 7 (scoreF gS) := by
  intro args H nx v H' nx' h
  unfold scoreF at h
  split at h
  rotate_left
  · cases h
  rename_i c key ver nv name vr
  split at h
  rotate_left
  · cases h
  rename_i hcond
  simp only [Bool.and_eq_true] at hcond
  obtain ⟨⟨⟨l1, l2⟩, l3⟩, l4⟩ := hcond
  have l1 := Nat.eq_of_beq_eq_true l1
  have l2 := Nat.eq_of_beq_eq_true l2
  have l3 := Nat.le_of_ble_eq_true l3
  have l4 := Nat.le_of_ble_eq_true l4
  obtain ⟨n0, n1, n2, n3, n4, n5, n6, n7, rfl⟩ := len8 l1
  obtain ⟨v0, v1, v2, v3, v4, v5, v6, v7, hvv⟩ := len8 (l := .str name :: vr) (by rw [List.length_cons, l2])
  rw [hvv] at h ⊢
  have hv0 : v0 = .str name := (List.cons.inj hvv).1.symm
  subst hv0
  split at h
  rotate_left
  · cases h
  rename_i Hn nn hnone
  obtain ⟨_, e2, e3⟩ := none_same hnone
  rw [e2, e3] at hnone
  clear e2 e3
  have hcallOK := callH_cons (none_ok (G := G) hm hmix) (callH_cons (find_ok hm hmix) (callH_cons (cut_ok hm hmix) (callH_cons (join_ok hm hmix) (callH_cons (put_ok hm hmix) (callH_cons (answ_ok hm hmix hG).heap (callH_cons hS.heap callH_nil))))))
  have hC : Sy.Enters Tryz.prog 7 ∧ nx ≤ nx' ∧ FnT Tryz.prog G 7 [.ptr c 0, .str key, .int .u64 ver, .agg [n0, n1, n2, n3, n4, n5, n6, n7], .agg [.str name, v1, v2, v3, v4, v5, v6, v7]] H nx v H' nx' := by
    refine fn_heap (args := [.ptr c 0, .str key, .int .u64 ver, .agg [n0, n1, n2, n3, n4, n5, n6, n7], .agg [.str name, v1, v2, v3, v4, v5, v6, v7]]) fx7 hm hmix hcallOK rfl ?_
    have cnone : ∀ a H nx, callH [(14, noneF), (15, findF), (16, cutF), (17, joinF), (20, putF), (18, liftP answF), (19, liftP gS)] 14 a H nx = noneF a H nx := fun a H nx => rfl
    have cfind : ∀ a H nx, callH [(14, noneF), (15, findF), (16, cutF), (17, joinF), (20, putF), (18, liftP answF), (19, liftP gS)] 15 a H nx = findF a H nx := fun a H nx => rfl
    have ccut : ∀ a H nx, callH [(14, noneF), (15, findF), (16, cutF), (17, joinF), (20, putF), (18, liftP answF), (19, liftP gS)] 16 a H nx = cutF a H nx := fun a H nx => rfl
    have cjoin : ∀ a H nx, callH [(14, noneF), (15, findF), (16, cutF), (17, joinF), (20, putF), (18, liftP answF), (19, liftP gS)] 17 a H nx = joinF a H nx := fun a H nx => rfl
    have cput : ∀ a H nx, callH [(14, noneF), (15, findF), (16, cutF), (17, joinF), (20, putF), (18, liftP answF), (19, liftP gS)] 20 a H nx = putF a H nx := fun a H nx => rfl
    have cansw : ∀ a v H nx, answF a = some v → callH [(14, noneF), (15, findF), (16, cutF), (17, joinF), (20, putF), (18, liftP answF), (19, liftP gS)] 18 a H nx = some (v, H, nx) := fun a v H nx h => by
      show liftP answF a H nx = _
      simp only [liftP, h]
    have cscore : ∀ a v H nx, gS a = some v → callH [(14, noneF), (15, findF), (16, cutF), (17, joinF), (20, putF), (18, liftP answF), (19, liftP gS)] 19 a H nx = some (v, H, nx) := fun a v H nx h => by
      show liftP gS a H nx = _
      simp only [liftP, h]
    generalize callH [(14, noneF), (15, findF), (16, cutF), (17, joinF), (20, putF), (18, liftP answF), (19, liftP gS)] = call at cnone cfind ccut cjoin cput cansw cscore
    generalize hsl : slots 0 (pad x7.nt [AV.ptr c 0, .str key, .int .u64 ver, .agg [n0, n1, n2, n3, n4, n5, n6, n7], .agg [.str name, v1, v2, v3, v4, v5, v6, v7]]) = fr0
    have g0 : fr0.get 0 = some (.ptr c 0) := by subst hsl; rfl
    have g1 : fr0.get 1 = some (.str key) := by subst hsl; rfl
    have g2 : fr0.get 2 = some (.int .u64 ver) := by subst hsl; rfl
    have g3 : fr0.get 3 = some (.agg [n0, n1, n2, n3, n4, n5, n6, n7]) := by subst hsl; rfl
    have g4 : fr0.get 4 = some (.agg [.str name, v1, v2, v3, v4, v5, v6, v7]) := by subst hsl; rfl
    clear hm hmix hcallOK hsl hG hS l1 l2 hvv
    have hk1 : decide (Int.ofNat key.length < 1) = false := by simp only [decide_eq_false_iff_not, Int.ofNat_eq_natCast]; omega
    have hk2 : decide (Int.ofNat key.length > 2048) = false := by simp only [decide_eq_false_iff_not, Int.ofNat_eq_natCast]; omega
    have hno : call 14 [.ptr c 0] ((nx + 1, .cells false [.str name, v1, v2, v3, v4, v5, v6, v7]) :: (nx, .cells false [n0, n1, n2, n3, n4, n5, n6, n7]) :: H) (nx + 1 + 1) = some (.bool false, (nx + 1, .cells false [.str name, v1, v2, v3, v4, v5, v6, v7]) :: (nx, .cells false [n0, n1, n2, n3, n4, n5, n6, n7]) :: H, nx + 1 + 1) := (cnone _ _ _).trans hnone
    have hl0 : xload ((nx + 1, HO.cells false [.str name, v1, v2, v3, v4, v5, v6, v7]) :: (nx, .cells false [n0, n1, n2, n3, n4, n5, n6, n7]) :: H) 1 false (.ptr (nx + 1) (0 + 0)) = some (.str name) := by simp only [xload, get_cons_self]; rfl
    generalize hH2 : ((nx + 1, HO.cells false [.str name, v1, v2, v3, v4, v5, v6, v7]) :: (nx, .cells false [n0, n1, n2, n3, n4, n5, n6, n7]) :: H : List (Nat × HO)) = H2 at h hno hl0
    have hls : xload ((nx + 2, HO.cells false [.str key, .str name]) :: H2) 2 true (.ptr (nx + 1 + 1) 0) = some (.agg [.str key, .str name]) := by simp only [xload, get_cons_self]; rfl
    simp only [x7]
    iterate 1 all_goals (first | with_reducible refine stp ?_ | with_reducible refine B_o rfl ?_ | with_reducible refine A_condT ?_ | with_reducible refine A_condF ?_ | with_reducible refine A_cond2 (fun hc => ?_) (fun hc => ?_) | with_reducible refine A_E ?_ | skip)
    all_goals (unfold x7_r0)
    all_goals (with_reducible refine C_reg ?_)
    all_goals (with_reducible refine A_box ?_)
    all_goals (with_reducible refine A_box ?_)
    all_goals (with_reducible refine A_mov ?_)
    all_goals (with_reducible refine A_mov ?_)
    all_goals refine O_nil ?_
    rw [hH2]
    iterate 3 all_goals (first | with_reducible refine stp ?_ | with_reducible refine B_o rfl ?_ | with_reducible refine A_condT ?_ | with_reducible refine A_condF ?_ | with_reducible refine A_cond2 (fun hc => ?_) (fun hc => ?_) | with_reducible refine A_E ?_ | skip)
    all_goals (with_reducible refine C_reg ?_)
    all_goals (with_reducible refine A_mov ?_)
    all_goals (refine A_call ?_)
    all_goals refine O_nil ?_
    iterate 6 all_goals (first | with_reducible refine stp ?_ | with_reducible refine B_o rfl ?_ | with_reducible refine A_condT ?_ | with_reducible refine A_condF ?_ | with_reducible refine A_cond2 (fun hc => ?_) (fun hc => ?_) | with_reducible refine A_E ?_ | skip)
    all_goals (unfold x7_r1)
    all_goals (with_reducible refine C_reg ?_)
    all_goals (with_reducible refine A_mov ?_)
    all_goals (with_reducible refine A_lenS ?_)
    all_goals (refine A_bin ?_)
    all_goals (with_reducible refine A_mov ?_)
    all_goals (first | with_reducible refine A_gdF ?_ | with_reducible refine A_gdU ?_ | (with_reducible refine A_gdT ?_; (with_reducible refine A_mov ?_)) | (with_reducible refine A_gd2f (fun hc => ?_) (fun hc => ?_); (with_reducible refine A_mov ?_)))
    all_goals (first | with_reducible refine A_gdF ?_ | with_reducible refine A_gdU ?_ | (with_reducible refine A_gdT ?_; (with_reducible refine A_lenS ?_)) | (with_reducible refine A_gd2f (fun hc => ?_) (fun hc => ?_); (with_reducible refine A_lenS ?_)))
    all_goals (first | with_reducible refine A_gdF ?_ | with_reducible refine A_gdU ?_ | (with_reducible refine A_gdT ?_; (refine A_bin ?_)) | (with_reducible refine A_gd2f (fun hc => ?_) (fun hc => ?_); (refine A_bin ?_)))
    all_goals (first | with_reducible refine A_pickT ?_ | with_reducible refine A_pickF ?_ | with_reducible refine A_pick2 (fun hc => ?_) (fun hc => ?_))
    all_goals refine O_nil ?_
    iterate 6 all_goals (first | with_reducible refine stp ?_ | with_reducible refine B_o rfl ?_ | with_reducible refine A_condT ?_ | with_reducible refine A_condF ?_ | with_reducible refine A_cond2 (fun hc => ?_) (fun hc => ?_) | with_reducible refine A_E ?_ | skip)
    all_goals (unfold x7_r2)
    all_goals (with_reducible refine C_reg ?_)
    all_goals (with_reducible refine A_mov ?_)
    all_goals (first | with_reducible refine A_faddrP ?_ | with_reducible refine A_faddrE ?_)
    all_goals (refine A_load ?_)
    all_goals (with_reducible refine A_build ?_)
    all_goals (with_reducible refine A_alloc ?_)
    all_goals (refine A_store ?_)
    all_goals refine O_nil ?_
    iterate 4 all_goals (first | with_reducible refine stp ?_ | with_reducible refine B_o rfl ?_ | with_reducible refine A_condT ?_ | with_reducible refine A_condF ?_ | with_reducible refine A_cond2 (fun hc => ?_) (fun hc => ?_) | with_reducible refine A_E ?_ | skip)
    split at h
    · -- nothing is known of it
      rename_i x H4 m4 hf
      obtain ⟨o, e4, e5⟩ := find_heap hf
      have hfc : call 15 [.ptr c 0, .agg [.str key, .str name], .int .u64 ver] ((nx + 2, HO.cells false [.str key, .str name]) :: H2) (nx + 1 + 1 + 1) = some (.tup [x, .bool false], H4, m4) := (cfind _ _ _).trans hf
      have hl8 : xload H4 8 true (.ptr nx 0) = some (.agg [n0, n1, n2, n3, n4, n5, n6, n7]) := by
        rw [e4, ← hH2]
        simp only [xload]
        rw [get_cons_ne (by omega), get_cons_ne (by omega), get_cons_ne (by omega), get_cons_self]
        rfl
      have hl9 : xload H4 8 true (.ptr (nx + 1) 0) = some (.agg [.str name, v1, v2, v3, v4, v5, v6, v7]) := by
        rw [e4, ← hH2]
        simp only [xload]
        rw [get_cons_ne (by omega), get_cons_ne (by omega), get_cons_self]
        rfl
      have hl12 : xload H4 2 true (.ptr (nx + 1 + 1) 0) = some (.agg [.str key, .str name]) := by
        rw [e4]
        simp only [xload]
        rw [get_cons_ne (by omega), get_cons_self]
        rfl
      unfold missF at h
      split at h
      rotate_left
      · cases h
      rename_i s e hgs
      have hsc := fun H nx => cscore _ _ H nx hgs
      clear hf cnone cfind ccut cjoin cansw cscore hnone hno hgs e4 e5 hH2
      all_goals (unfold x7_r3)
      all_goals (with_reducible refine C_reg ?_)
      all_goals (with_reducible refine A_mov ?_)
      all_goals (refine A_load ?_)
      all_goals (with_reducible refine A_mov ?_)
      all_goals (refine A_call ?_)
      all_goals (with_reducible refine A_mov ?_)
      all_goals (with_reducible refine A_ext ?_)
      all_goals (with_reducible refine A_ext ?_)
      all_goals (with_reducible refine A_mov ?_)
      all_goals (with_reducible refine A_mov ?_)
      all_goals refine O_nil ?_
      iterate 3 all_goals (first | with_reducible refine stp ?_ | with_reducible refine B_o rfl ?_ | with_reducible refine A_condT ?_ | with_reducible refine A_condF ?_ | with_reducible refine A_cond2 (fun hc => ?_) (fun hc => ?_) | with_reducible refine A_E ?_ | skip)
      all_goals (with_reducible refine C_reg ?_)
      all_goals (with_reducible refine A_mov ?_)
      all_goals refine O_nil ?_
      iterate 6 all_goals (first | with_reducible refine stp ?_ | with_reducible refine B_o rfl ?_ | with_reducible refine A_condT ?_ | with_reducible refine A_condF ?_ | with_reducible refine A_cond2 (fun hc => ?_) (fun hc => ?_) | with_reducible refine A_E ?_ | skip)
      all_goals (unfold x7_r7)
      all_goals (with_reducible refine C_reg ?_)
      all_goals (refine A_load ?_)
      all_goals (refine A_load ?_)
      all_goals (refine A_call ?_)
      all_goals (with_reducible refine A_mov ?_)
      all_goals (with_reducible refine A_ext ?_)
      all_goals (with_reducible refine A_ext ?_)
      all_goals (with_reducible refine A_mov ?_)
      all_goals (with_reducible refine A_mov ?_)
      all_goals refine O_nil ?_
      iterate 3 all_goals (first | with_reducible refine stp ?_ | with_reducible refine B_o rfl ?_ | with_reducible refine A_condT ?_ | with_reducible refine A_condF ?_ | with_reducible refine A_cond2 (fun hc => ?_) (fun hc => ?_) | with_reducible refine A_E ?_ | skip)
      split at h
      · rename_i he
        split at h
        rotate_left
        · cases h
        rename_i H5 m5 hp
        cases h
        have hpc : call 20 [.ptr c 0, .agg [.str key, .str name, .int .u64 ver, .int .i64 s, .bool (e == 0)]] H4 m4 = some (.tup [], H', nx') := (cput _ _ _).trans hp
        clear hp cput
        rw [Bool.or_eq_true] at he
        by_cases he0 : (e == 0) = true
        · skip
          all_goals (unfold x7_r8)
          all_goals (with_reducible refine C_reg ?_)
          all_goals (with_reducible refine A_mov ?_)
          all_goals (refine A_bin ?_)
          all_goals (with_reducible refine A_mov ?_)
          all_goals (first | with_reducible refine A_gdF ?_ | with_reducible refine A_gdU ?_ | (with_reducible refine A_gdT ?_; (with_reducible refine A_mov ?_)) | (with_reducible refine A_gd2f (fun hc => ?_) (fun hc => ?_); (with_reducible refine A_mov ?_)))
          all_goals (first | with_reducible refine A_gdF ?_ | with_reducible refine A_gdU ?_ | (with_reducible refine A_gdT ?_; (refine A_bin ?_)) | (with_reducible refine A_gd2f (fun hc => ?_) (fun hc => ?_); (refine A_bin ?_)))
          all_goals (first | with_reducible refine A_pickT ?_ | with_reducible refine A_pickF ?_ | with_reducible refine A_pick2 (fun hc => ?_) (fun hc => ?_))
          all_goals refine O_nil ?_
          iterate 6 all_goals (first | with_reducible refine stp ?_ | with_reducible refine B_o rfl ?_ | with_reducible refine A_condT ?_ | with_reducible refine A_condF ?_ | with_reducible refine A_cond2 (fun hc => ?_) (fun hc => ?_) | with_reducible refine A_E ?_ | skip)
          rw [he0] at hpc
          all_goals (unfold x7_r9)
          all_goals (with_reducible refine C_reg ?_)
          all_goals (with_reducible refine A_mov ?_)
          all_goals (refine A_load ?_)
          all_goals (with_reducible refine A_mov ?_)
          all_goals (with_reducible refine A_mov ?_)
          all_goals (with_reducible refine A_mov ?_)
          all_goals (refine A_bin ?_)
          all_goals (with_reducible refine A_build ?_)
          all_goals (refine A_call ?_)
          all_goals refine O_nil ?_
          iterate 4 all_goals (first | with_reducible refine stp ?_ | with_reducible refine B_o rfl ?_ | with_reducible refine A_condT ?_ | with_reducible refine A_condF ?_ | with_reducible refine A_cond2 (fun hc => ?_) (fun hc => ?_) | with_reducible refine A_E ?_ | skip)
          all_goals (unfold x7_r10)
          all_goals (with_reducible refine C_reg ?_)
          all_goals (with_reducible refine A_mov ?_)
          all_goals (with_reducible refine A_mov ?_)
          all_goals (with_reducible refine A_mov ?_)
          all_goals (with_reducible refine A_mov ?_)
          all_goals refine O_nil ?_
          iterate 6 all_goals (first | with_reducible refine stp ?_ | with_reducible refine B_o rfl ?_ | with_reducible refine A_condT ?_ | with_reducible refine A_condF ?_ | with_reducible refine A_cond2 (fun hc => ?_) (fun hc => ?_) | with_reducible refine A_E ?_ | skip)
          exact ⟨rfl, rfl, rfl⟩
        · have he1 : (e == 14) = true := he.resolve_left he0
          rw [Bool.not_eq_true] at he0
          all_goals (unfold x7_r8)
          all_goals (with_reducible refine C_reg ?_)
          all_goals (with_reducible refine A_mov ?_)
          all_goals (refine A_bin ?_)
          all_goals (with_reducible refine A_mov ?_)
          all_goals (first | with_reducible refine A_gdF ?_ | with_reducible refine A_gdU ?_ | (with_reducible refine A_gdT ?_; (with_reducible refine A_mov ?_)) | (with_reducible refine A_gd2f (fun hc => ?_) (fun hc => ?_); (with_reducible refine A_mov ?_)))
          all_goals (first | with_reducible refine A_gdF ?_ | with_reducible refine A_gdU ?_ | (with_reducible refine A_gdT ?_; (refine A_bin ?_)) | (with_reducible refine A_gd2f (fun hc => ?_) (fun hc => ?_); (refine A_bin ?_)))
          all_goals (first | with_reducible refine A_pickT ?_ | with_reducible refine A_pickF ?_ | with_reducible refine A_pick2 (fun hc => ?_) (fun hc => ?_))
          all_goals refine O_nil ?_
          iterate 6 all_goals (first | with_reducible refine stp ?_ | with_reducible refine B_o rfl ?_ | with_reducible refine A_condT ?_ | with_reducible refine A_condF ?_ | with_reducible refine A_cond2 (fun hc => ?_) (fun hc => ?_) | with_reducible refine A_E ?_ | skip)
          rw [he0] at hpc
          all_goals (unfold x7_r9)
          all_goals (with_reducible refine C_reg ?_)
          all_goals (with_reducible refine A_mov ?_)
          all_goals (refine A_load ?_)
          all_goals (with_reducible refine A_mov ?_)
          all_goals (with_reducible refine A_mov ?_)
          all_goals (with_reducible refine A_mov ?_)
          all_goals (refine A_bin ?_)
          all_goals (with_reducible refine A_build ?_)
          all_goals (refine A_call ?_)
          all_goals refine O_nil ?_
          iterate 4 all_goals (first | with_reducible refine stp ?_ | with_reducible refine B_o rfl ?_ | with_reducible refine A_condT ?_ | with_reducible refine A_condF ?_ | with_reducible refine A_cond2 (fun hc => ?_) (fun hc => ?_) | with_reducible refine A_E ?_ | skip)
          all_goals (unfold x7_r10)
          all_goals (with_reducible refine C_reg ?_)
          all_goals (with_reducible refine A_mov ?_)
          all_goals (with_reducible refine A_mov ?_)
          all_goals (with_reducible refine A_mov ?_)
          all_goals (with_reducible refine A_mov ?_)
          all_goals refine O_nil ?_
          iterate 6 all_goals (first | with_reducible refine stp ?_ | with_reducible refine B_o rfl ?_ | with_reducible refine A_condT ?_ | with_reducible refine A_condF ?_ | with_reducible refine A_cond2 (fun hc => ?_) (fun hc => ?_) | with_reducible refine A_E ?_ | skip)
          exact ⟨rfl, rfl, rfl⟩
      · rename_i he
        cases h
        rw [Bool.or_eq_false_iff] at he
        obtain ⟨he0, he1⟩ := he
        all_goals (unfold x7_r8)
        all_goals (with_reducible refine C_reg ?_)
        all_goals (with_reducible refine A_mov ?_)
        all_goals (refine A_bin ?_)
        all_goals (with_reducible refine A_mov ?_)
        all_goals (first | with_reducible refine A_gdF ?_ | with_reducible refine A_gdU ?_ | (with_reducible refine A_gdT ?_; (with_reducible refine A_mov ?_)) | (with_reducible refine A_gd2f (fun hc => ?_) (fun hc => ?_); (with_reducible refine A_mov ?_)))
        all_goals (first | with_reducible refine A_gdF ?_ | with_reducible refine A_gdU ?_ | (with_reducible refine A_gdT ?_; (refine A_bin ?_)) | (with_reducible refine A_gd2f (fun hc => ?_) (fun hc => ?_); (refine A_bin ?_)))
        all_goals (first | with_reducible refine A_pickT ?_ | with_reducible refine A_pickF ?_ | with_reducible refine A_pick2 (fun hc => ?_) (fun hc => ?_))
        all_goals refine O_nil ?_
        iterate 6 all_goals (first | with_reducible refine stp ?_ | with_reducible refine B_o rfl ?_ | with_reducible refine A_condT ?_ | with_reducible refine A_condF ?_ | with_reducible refine A_cond2 (fun hc => ?_) (fun hc => ?_) | with_reducible refine A_E ?_ | skip)
        all_goals (unfold x7_r10)
        all_goals (with_reducible refine C_reg ?_)
        all_goals (with_reducible refine A_mov ?_)
        all_goals (with_reducible refine A_mov ?_)
        all_goals (with_reducible refine A_mov ?_)
        all_goals (with_reducible refine A_mov ?_)
        all_goals refine O_nil ?_
        iterate 6 all_goals (first | with_reducible refine stp ?_ | with_reducible refine B_o rfl ?_ | with_reducible refine A_condT ?_ | with_reducible refine A_condF ?_ | with_reducible refine A_cond2 (fun hc => ?_) (fun hc => ?_) | with_reducible refine A_E ?_ | skip)
        exact ⟨rfl, rfl, rfl⟩
    · -- it is known
      rename_i x H4 m4 hf
      have hfc : call 15 [.ptr c 0, .agg [.str key, .str name], .int .u64 ver] ((nx + 2, HO.cells false [.str key, .str name]) :: H2) (nx + 1 + 1 + 1) = some (.tup [.ptr x 0, .bool true], H4, m4) := (cfind _ _ _).trans hf
      unfold hitF at h
      split at h
      rotate_left
      · cases h
      rename_i r m hh hc
      generalize hH5 : H4.put c (.cells false [r, m, .int .u64 (wrapx .u64 (hh + 1))]) = H5 at h
      split at h
      rotate_left
      · cases h
      rename_i H6 m6 hcut
      split at h
      rotate_left
      · cases h
      rename_i q _ _ hc6
      split at h
      rotate_left
      · cases h
      rename_i H7 m7 hj
      split at h
      rotate_left
      · cases h
      rename_i a b w s f _ _ hx7
      split at h
      rotate_left
      · cases h
      rename_i s' e' ha
      cases h
      have hcc : call 16 [.ptr x 0] H5 m4 = some (.tup [], H6, m6) := (ccut _ _ _).trans hcut
      have hjc : call 17 [.ptr x 0, .ptr q 0] H6 m6 = some (.tup [], H', nx') := (cjoin _ _ _).trans hj
      have hac := cansw _ _ H' nx' ha
      have hla : xload H4 1 false (.ptr c (0 + 2)) = some (.int .u64 hh) := by simp only [xload]; rw [hc]; rfl
      have hadd : xbin .add (.int .u64 hh) (.int .u64 1) = some (.int .u64 (wrapx .u64 (hh + 1))) := rfl
      have hlr : xload H6 1 false (.ptr c (0 + 0)) = some (.ptr q 0) := by simp only [xload]; rw [hc6]; rfl
      have hlx : xload H' 5 true (.ptr x (0 + 0)) = some (.agg [a, b, w, s, f]) := by simp only [xload]; rw [hx7]; rfl
      clear hf cnone cfind ccut cjoin cansw cscore cput hnone hno hcut hj ha
      all_goals (unfold x7_r3)
      all_goals (with_reducible refine C_reg ?_)
      all_goals (with_reducible refine A_mov ?_)
      all_goals (refine A_load ?_)
      all_goals (with_reducible refine A_mov ?_)
      all_goals (refine A_call ?_)
      all_goals (with_reducible refine A_mov ?_)
      all_goals (with_reducible refine A_ext ?_)
      all_goals (with_reducible refine A_ext ?_)
      all_goals (with_reducible refine A_mov ?_)
      all_goals (with_reducible refine A_mov ?_)
      all_goals refine O_nil ?_
      iterate 3 all_goals (first | with_reducible refine stp ?_ | with_reducible refine B_o rfl ?_ | with_reducible refine A_condT ?_ | with_reducible refine A_condF ?_ | with_reducible refine A_cond2 (fun hc => ?_) (fun hc => ?_) | with_reducible refine A_E ?_ | skip)
      all_goals (with_reducible refine C_reg ?_)
      all_goals (with_reducible refine A_mov ?_)
      all_goals refine O_nil ?_
      iterate 6 all_goals (first | with_reducible refine stp ?_ | with_reducible refine B_o rfl ?_ | with_reducible refine A_condT ?_ | with_reducible refine A_condF ?_ | with_reducible refine A_cond2 (fun hc => ?_) (fun hc => ?_) | with_reducible refine A_E ?_ | skip)
      all_goals (unfold x7_r4)
      all_goals (with_reducible refine C_reg ?_)
      all_goals (with_reducible refine A_mov ?_)
      all_goals (first | with_reducible refine A_nilchkP ?_ | with_reducible refine A_nilchkE ?_ | with_reducible refine A_nilchkI ?_ | with_reducible refine A_nilchkF ?_)
      all_goals (first | with_reducible refine A_faddrP ?_ | with_reducible refine A_faddrE ?_)
      all_goals (refine A_load ?_)
      all_goals (refine A_bin ?_)
      all_goals (first | with_reducible refine A_nilchkP ?_ | with_reducible refine A_nilchkE ?_ | with_reducible refine A_nilchkI ?_ | with_reducible refine A_nilchkF ?_)
      all_goals (first | with_reducible refine A_faddrP ?_ | with_reducible refine A_faddrE ?_)
      all_goals (refine A_store ?_)
      all_goals refine O_nil ?_
      iterate 4 all_goals (first | with_reducible refine stp ?_ | with_reducible refine B_o rfl ?_ | with_reducible refine A_condT ?_ | with_reducible refine A_condF ?_ | with_reducible refine A_cond2 (fun hc => ?_) (fun hc => ?_) | with_reducible refine A_E ?_ | skip)
      all_goals (with_reducible refine C_reg ?_)
      all_goals (with_reducible refine A_mov ?_)
      all_goals (refine A_call ?_)
      all_goals refine O_nil ?_
      iterate 3 all_goals (first | with_reducible refine stp ?_ | with_reducible refine B_o rfl ?_ | with_reducible refine A_condT ?_ | with_reducible refine A_condF ?_ | with_reducible refine A_cond2 (fun hc => ?_) (fun hc => ?_) | with_reducible refine A_E ?_ | skip)
      all_goals (unfold x7_r5)
      all_goals (with_reducible refine C_reg ?_)
      all_goals (with_reducible refine A_mov ?_)
      all_goals (with_reducible refine A_mov ?_)
      all_goals (first | with_reducible refine A_nilchkP ?_ | with_reducible refine A_nilchkE ?_ | with_reducible refine A_nilchkI ?_ | with_reducible refine A_nilchkF ?_)
      all_goals (first | with_reducible refine A_faddrP ?_ | with_reducible refine A_faddrE ?_)
      all_goals (refine A_load ?_)
      all_goals (refine A_call ?_)
      all_goals refine O_nil ?_
      iterate 3 all_goals (first | with_reducible refine stp ?_ | with_reducible refine B_o rfl ?_ | with_reducible refine A_condT ?_ | with_reducible refine A_condF ?_ | with_reducible refine A_cond2 (fun hc => ?_) (fun hc => ?_) | with_reducible refine A_E ?_ | skip)
      all_goals (unfold x7_r6)
      all_goals (with_reducible refine C_reg ?_)
      all_goals (with_reducible refine A_mov ?_)
      all_goals (first | with_reducible refine A_nilchkP ?_ | with_reducible refine A_nilchkE ?_ | with_reducible refine A_nilchkI ?_ | with_reducible refine A_nilchkF ?_)
      all_goals (first | with_reducible refine A_faddrP ?_ | with_reducible refine A_faddrE ?_)
      all_goals (refine A_load ?_)
      all_goals (refine A_call ?_)
      all_goals (with_reducible refine A_ext ?_)
      all_goals (with_reducible refine A_ext ?_)
      all_goals (with_reducible refine A_mov ?_)
      all_goals (with_reducible refine A_mov ?_)
      all_goals refine O_nil ?_
      iterate 6 all_goals (first | with_reducible refine stp ?_ | with_reducible refine B_o rfl ?_ | with_reducible refine A_condT ?_ | with_reducible refine A_condF ?_ | with_reducible refine A_cond2 (fun hc => ?_) (fun hc => ?_) | with_reducible refine A_E ?_ | skip)
      exact ⟨rfl, rfl, rfl⟩
    · cases h
  exact hC
end

end Go.Proofs.YtmmmpgnkglhkjaaGreatDoor.cacheW
