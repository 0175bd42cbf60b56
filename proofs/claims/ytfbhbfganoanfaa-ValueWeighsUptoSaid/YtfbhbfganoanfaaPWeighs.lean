/- The cleaned code of the functions that the law reaches, printed by program. Conditions: none (definitions). -/
import Derived.Test.YtfbhbfganoanfaaHA
set_option maxRecDepth 100000
namespace Hm
namespace F
abbrev hallmarklaw03_ValueWeighs : Nat := 4
abbrev value_Weight : Nat := 5
abbrev hallmarklaw03_small : Nat := 6
abbrev hallmarkref03_Formed : Nat := 7
abbrev hallmarkref03_Weight : Nat := 8
abbrev value_Depth : Nat := 9
abbrev hallmarkref03_Depth : Nat := 10
abbrev strings_TrimPrefix : Nat := 15
abbrev hallmarkref03_Parts : Nat := 16
abbrev hallmarkref03_Number : Nat := 17
abbrev hallmarkref03_UTF : Nat := 18
abbrev hallmarkref03_Rise : Nat := 19
abbrev hallmarkref03_All : Nat := 20
abbrev internal_stringslite_TrimPrefix : Nat := 41
abbrev hallmarkref03_width : Nat := 42
abbrev internal_stringslite_HasPrefix : Nat := 52
abbrev hallmarkref03_trail : Nat := 53
end F
namespace hallmarklaw03_ValueWeighs
def r0 : List AO := [⟨some 1, .box (.t 0), none⟩,
  ⟨some 2, .asg (.v (.bool false)), none⟩]
def r1 : List AO := [⟨some 3, .build [.av (.int .i64 0), .av (.str []), .av (.str []), .own 5 [], .own 1 []] [(0, 1, .v (.int .i64 4)), (2, 1, .v (.str [97, 98]))], none⟩,
  ⟨some 4, .call .deep (.v (.clo F.value_Weight [] [])) [.t 3], none⟩,
  ⟨some 5, .bin .neq (.t 4) (.v (.int .i64 3)), none⟩]
def r2 : List AO := [⟨some 2, .asg (.v (.bool false)), none⟩]
def r3 : List AO := [⟨some 6, .load 5 true (.t 1), none⟩,
  ⟨some 7, .call .deep (.v (.clo F.hallmarklaw03_small [] [])) [.t 6], none⟩,
  ⟨some 8, .un .not (.t 7), none⟩,
  ⟨some 9, .mv (.t 8), none⟩,
  ⟨some 10, .load 5 true (.t 1), some (9, false)⟩,
  ⟨some 11, .call .deep (.v (.clo F.hallmarkref03_Formed [] [])) [.t 10], some (9, false)⟩,
  ⟨some 12, .un .not (.t 11), some (9, false)⟩,
  ⟨some 13, .pick (.t 9) (.v (.bool true)) (.t 12), none⟩]
def r4 : List AO := [⟨some 2, .asg (.v (.bool true)), none⟩]
def r5 : List Ph := [.bag false [] [14, 16, 20, 22, 27, 29] [(0, ⟨some 14, .load 5 true (.t 1), none⟩),
    (1, ⟨some 15, .call .deep (.v (.clo F.value_Weight [] [])) [.t 14], none⟩),
    (2, ⟨some 16, .load 5 true (.t 1), none⟩),
    (3, ⟨some 17, .call .deep (.v (.clo F.hallmarkref03_Weight [] [])) [.t 16], none⟩),
    (4, ⟨some 18, .bin .eql (.t 15) (.t 17), none⟩),
    (5, ⟨some 19, .mv (.t 18), none⟩),
    (6, ⟨some 20, .load 5 true (.t 1), some (19, true)⟩),
    (7, ⟨some 21, .call .deep (.v (.clo F.value_Depth [] [])) [.t 20], some (19, true)⟩),
    (8, ⟨some 22, .load 5 true (.t 1), some (19, true)⟩),
    (9, ⟨some 23, .call .deep (.v (.clo F.hallmarkref03_Depth [] [])) [.t 22], some (19, true)⟩),
    (10, ⟨some 24, .bin .eql (.t 21) (.t 23), some (19, true)⟩),
    (11, ⟨some 25, .pick (.t 19) (.t 24) (.v (.bool false)), none⟩),
    (12, ⟨some 26, .mv (.t 25), none⟩),
    (13, ⟨some 27, .load 5 true (.t 1), some (26, true)⟩),
    (14, ⟨some 28, .call .deep (.v (.clo F.value_Weight [] [])) [.t 27], some (26, true)⟩),
    (15, ⟨some 29, .load 5 true (.t 1), some (26, true)⟩),
    (16, ⟨some 30, .call .deep (.v (.clo F.value_Depth [] [])) [.t 29], some (26, true)⟩),
    (17, ⟨some 31, .bin .geq (.t 28) (.t 30), some (26, true)⟩),
    (18, ⟨some 32, .pick (.t 26) (.t 31) (.v (.bool false)), none⟩),
    (19, ⟨some 2, .asg (.t 32), none⟩)]]
def body : AC := .seq (.reg r0 [1]) (.seq (.seq (.reg r1 [1, 5]) (.cond (.t 5) (.seq (.reg r2 [2]) (.ret)) (.skip))) (.seq (.seq (.reg r3 [1, 13]) (.cond (.t 13) (.seq (.reg r4 [2]) (.ret)) (.skip))) (.seq (.dreg r5 [2]) (.ret))))
def fn : AFun := ⟨[.val], 33, [.tmp 2], [], body⟩
end hallmarklaw03_ValueWeighs
namespace value_Weight
def r0 : List AO := [⟨some 1, .box (.t 0), none⟩,
  ⟨some 2, .asg (.v (.int .i64 0)), none⟩]
def r1 : List Ph := [.bag false [] [] [(0, ⟨some 8, .fadr 1 (.t 1), none⟩),
    (1, ⟨some 9, .load 1 false (.t 8), none⟩),
    (2, ⟨some 10, .call .deep (.v (.clo F.strings_TrimPrefix [] [])) [.t 9, .v (.str [45])], none⟩),
    (3, ⟨some 11, .len true (.t 10), none⟩),
    (4, ⟨some 12, .bin .add (.v (.int .i64 1)) (.t 11), none⟩),
    (5, ⟨some 13, .fadr 2 (.t 1), none⟩),
    (6, ⟨some 14, .load 1 false (.t 13), none⟩),
    (7, ⟨some 15, .len true (.t 14), none⟩),
    (8, ⟨some 16, .bin .add (.t 12) (.t 15), none⟩),
    (9, ⟨some 3, .asg (.t 16), none⟩)]]
def r2 : List AO := [⟨some 17, .fadr 4 (.t 1), none⟩,
  ⟨some 18, .load 1 false (.t 17), none⟩,
  ⟨some 19, .len false (.t 18), none⟩,
  ⟨some 20, .mv (.v (.int .i64 0)), none⟩]
def r3 : List AO := [⟨some 21, .bin .lss (.t 20) (.t 19), none⟩]
def r4 : List AO := [⟨some 22, .iadr 1 (.t 18) (.t 20), none⟩,
  ⟨some 23, .load 1 false (.t 22), none⟩,
  ⟨some 5, .asg (.t 23), none⟩]
def r5 : List AO := [⟨some 24, .mv (.t 3), none⟩,
  ⟨some 25, .mv (.t 5), none⟩,
  ⟨some 26, .len true (.t 25), none⟩,
  ⟨some 27, .bin .add (.v (.int .i64 1)) (.t 26), none⟩,
  ⟨some 28, .bin .add (.t 24) (.t 27), none⟩,
  ⟨some 3, .asg (.t 28), none⟩]
def r6 : List AO := [⟨some 29, .bin .add (.t 20) (.v (.int .i64 1)), none⟩,
  ⟨some 20, .mv (.t 29), none⟩]
def l1 : AC := .seq (.reg r3 [1, 3, 18, 19, 20, 21]) (.seq (.cond (.t 21) (.skip) (.exit 0)) (.seq (.block 1 (.seq (.reg r4 [1, 3, 5, 18, 19, 20]) (.reg r5 [1, 3, 18, 19, 20]))) (.reg r6 [1, 3, 18, 19, 20])))
def r7 : List AO := [⟨some 30, .fadr 3 (.t 1), none⟩,
  ⟨some 31, .take 1 false (.t 30), none⟩,
  ⟨some 32, .len false (.t 31), none⟩,
  ⟨some 33, .mv (.v (.int .i64 0)), none⟩]
def r8 : List AO := [⟨some 34, .bin .lss (.t 33) (.t 32), none⟩]
def r9 : List AO := [⟨some 35, .iadr 5 (.t 31) (.t 33), none⟩,
  ⟨some 36, .load 5 true (.t 35), none⟩,
  ⟨some 7, .alloc [.av (.int .i64 0), .av (.str []), .av (.str []), .own 5 [], .own 1 []], none⟩,
  ⟨none, .store 5 (.t 7) (.t 36), none⟩]
def r10 : List AO := [⟨some 37, .mv (.t 3), none⟩,
  ⟨some 38, .take 5 true (.t 7), none⟩,
  ⟨some 39, .call .deep (.v (.clo F.value_Weight [] [])) [.t 38], none⟩,
  ⟨some 40, .bin .add (.t 37) (.t 39), none⟩,
  ⟨some 3, .asg (.t 40), none⟩]
def r11 : List AO := [⟨some 41, .bin .add (.t 33) (.v (.int .i64 1)), none⟩,
  ⟨some 33, .mv (.t 41), none⟩]
def l2 : AC := .seq (.reg r8 [3, 31, 32, 33, 34]) (.seq (.cond (.t 34) (.skip) (.exit 2)) (.seq (.block 3 (.seq (.reg r9 [3, 7, 31, 32, 33]) (.reg r10 [3, 31, 32, 33]))) (.reg r11 [3, 31, 32, 33])))
def r12 : List AO := [⟨some 42, .mv (.t 3), none⟩,
  ⟨some 2, .asg (.t 42), none⟩]
def body : AC := .seq (.reg r0 [1]) (.seq (.dreg r1 [1, 3]) (.seq (.seq (.reg r2 [1, 3, 18, 19, 20]) (.block 0 (.loop [1, 3, 18, 19, 20] l1))) (.seq (.seq (.reg r7 [3, 31, 32, 33]) (.block 2 (.loop [3, 31, 32, 33] l2))) (.seq (.reg r12 [2]) (.ret)))))
def fn : AFun := ⟨[.val], 43, [.tmp 2], [], body⟩
end value_Weight
namespace hallmarklaw03_small
def r0 : List AO := [⟨some 1, .box (.t 0), none⟩,
  ⟨some 2, .asg (.v (.bool false)), none⟩]
def r1 : List AO := [⟨some 3, .take 5 true (.t 1), none⟩,
  ⟨some 4, .call .deep (.v (.clo F.hallmarkref03_Parts [] [])) [.t 3, .v (.int .i64 10000)], none⟩,
  ⟨some 5, .bin .leq (.t 4) (.v (.int .i64 10000)), none⟩,
  ⟨some 2, .asg (.t 5), none⟩]
def body : AC := .seq (.reg r0 [1]) (.seq (.reg r1 [2]) (.ret))
def fn : AFun := ⟨[.val], 6, [.tmp 2], [], body⟩
end hallmarklaw03_small
namespace hallmarkref03_Formed
def r0 : List AO := [⟨some 1, .box (.t 0), none⟩,
  ⟨some 2, .asg (.v (.bool false)), none⟩]
def r1 : List AO := [⟨some 3, .fadr 0 (.t 1), none⟩,
  ⟨some 4, .load 1 false (.t 3), none⟩,
  ⟨some 5, .bin .lss (.t 4) (.v (.int .i64 0)), none⟩,
  ⟨some 6, .mv (.t 5), none⟩,
  ⟨some 7, .fadr 0 (.t 1), some (6, false)⟩,
  ⟨some 8, .load 1 false (.t 7), some (6, false)⟩,
  ⟨some 9, .bin .gtr (.t 8) (.v (.int .i64 6)), some (6, false)⟩,
  ⟨some 10, .pick (.t 6) (.v (.bool true)) (.t 9), none⟩]
def r2 : List AO := [⟨some 2, .asg (.v (.bool false)), none⟩]
def r3 : List AO := [⟨some 11, .fadr 0 (.t 1), none⟩,
  ⟨some 12, .load 1 false (.t 11), none⟩,
  ⟨some 13, .bin .eql (.t 12) (.v (.int .i64 3)), none⟩,
  ⟨some 14, .mv (.t 13), none⟩,
  ⟨some 15, .fadr 1 (.t 1), some (14, true)⟩,
  ⟨some 16, .load 1 false (.t 15), some (14, true)⟩,
  ⟨some 17, .call .deep (.v (.clo F.hallmarkref03_Number [] [])) [.t 16], some (14, true)⟩,
  ⟨some 18, .un .not (.t 17), some (14, true)⟩,
  ⟨some 19, .pick (.t 14) (.t 18) (.v (.bool false)), none⟩,
  ⟨some 20, .mv (.t 19), none⟩,
  ⟨some 21, .fadr 0 (.t 1), some (20, false)⟩,
  ⟨some 22, .load 1 false (.t 21), some (20, false)⟩,
  ⟨some 23, .bin .neq (.t 22) (.v (.int .i64 3)), some (20, false)⟩,
  ⟨some 24, .mv (.t 23), some (20, false)⟩,
  ⟨some 25, .fadr 1 (.t 1), some (24, true)⟩,
  ⟨some 26, .load 1 false (.t 25), some (24, true)⟩,
  ⟨some 27, .bin .neq (.t 26) (.v (.str [])), some (24, true)⟩,
  ⟨some 28, .pick (.t 24) (.t 27) (.v (.bool false)), some (20, false)⟩,
  ⟨some 29, .pick (.t 20) (.v (.bool true)) (.t 28), none⟩]
def r4 : List AO := [⟨some 2, .asg (.v (.bool false)), none⟩]
def r5 : List AO := [⟨some 30, .fadr 0 (.t 1), none⟩,
  ⟨some 31, .load 1 false (.t 30), none⟩,
  ⟨some 32, .bin .eql (.t 31) (.v (.int .i64 4)), none⟩,
  ⟨some 33, .mv (.t 32), none⟩,
  ⟨some 34, .fadr 2 (.t 1), some (33, true)⟩,
  ⟨some 35, .load 1 false (.t 34), some (33, true)⟩,
  ⟨some 36, .call .deep (.v (.clo F.hallmarkref03_UTF [] [])) [.t 35], some (33, true)⟩,
  ⟨some 37, .un .not (.t 36), some (33, true)⟩,
  ⟨some 38, .pick (.t 33) (.t 37) (.v (.bool false)), none⟩,
  ⟨some 39, .mv (.t 38), none⟩,
  ⟨some 40, .fadr 0 (.t 1), some (39, false)⟩,
  ⟨some 41, .load 1 false (.t 40), some (39, false)⟩,
  ⟨some 42, .bin .neq (.t 41) (.v (.int .i64 4)), some (39, false)⟩,
  ⟨some 43, .mv (.t 42), some (39, false)⟩,
  ⟨some 44, .fadr 2 (.t 1), some (43, true)⟩,
  ⟨some 45, .load 1 false (.t 44), some (43, true)⟩,
  ⟨some 46, .bin .neq (.t 45) (.v (.str [])), some (43, true)⟩,
  ⟨some 47, .pick (.t 43) (.t 46) (.v (.bool false)), some (39, false)⟩,
  ⟨some 48, .pick (.t 39) (.v (.bool true)) (.t 47), none⟩]
def r6 : List AO := [⟨some 2, .asg (.v (.bool false)), none⟩]
def r7 : List AO := [⟨some 49, .fadr 0 (.t 1), none⟩,
  ⟨some 50, .load 1 false (.t 49), none⟩,
  ⟨some 51, .bin .lss (.t 50) (.v (.int .i64 5)), none⟩,
  ⟨some 52, .mv (.t 51), none⟩,
  ⟨some 53, .fadr 3 (.t 1), some (52, true)⟩,
  ⟨some 54, .load 1 false (.t 53), some (52, true)⟩,
  ⟨some 55, .len false (.t 54), some (52, true)⟩,
  ⟨some 56, .bin .gtr (.t 55) (.v (.int .i64 0)), some (52, true)⟩,
  ⟨some 57, .pick (.t 52) (.t 56) (.v (.bool false)), none⟩,
  ⟨some 58, .mv (.t 57), none⟩,
  ⟨some 59, .fadr 0 (.t 1), some (58, false)⟩,
  ⟨some 60, .load 1 false (.t 59), some (58, false)⟩,
  ⟨some 61, .bin .lss (.t 60) (.v (.int .i64 6)), some (58, false)⟩,
  ⟨some 62, .mv (.t 61), some (58, false)⟩,
  ⟨some 63, .fadr 4 (.t 1), some (62, true)⟩,
  ⟨some 64, .load 1 false (.t 63), some (62, true)⟩,
  ⟨some 65, .len false (.t 64), some (62, true)⟩,
  ⟨some 66, .bin .gtr (.t 65) (.v (.int .i64 0)), some (62, true)⟩,
  ⟨some 67, .pick (.t 62) (.t 66) (.v (.bool false)), some (58, false)⟩,
  ⟨some 68, .pick (.t 58) (.v (.bool true)) (.t 67), none⟩]
def r8 : List AO := [⟨some 2, .asg (.v (.bool false)), none⟩]
def r9 : List AO := [⟨some 69, .fadr 0 (.t 1), none⟩,
  ⟨some 70, .load 1 false (.t 69), none⟩,
  ⟨some 71, .bin .eql (.t 70) (.v (.int .i64 6)), none⟩,
  ⟨some 72, .mv (.t 71), none⟩,
  ⟨some 73, .fadr 4 (.t 1), some (72, true)⟩,
  ⟨some 74, .load 1 false (.t 73), some (72, true)⟩,
  ⟨some 75, .len false (.t 74), some (72, true)⟩,
  ⟨some 76, .fadr 3 (.t 1), some (72, true)⟩,
  ⟨some 77, .load 1 false (.t 76), some (72, true)⟩,
  ⟨some 78, .len false (.t 77), some (72, true)⟩,
  ⟨some 79, .bin .neq (.t 75) (.t 78), some (72, true)⟩,
  ⟨some 80, .mv (.t 79), some (72, true)⟩,
  ⟨some 81, .fadr 4 (.t 1), some (80, false)⟩,
  ⟨some 82, .load 1 false (.t 81), some (80, false)⟩,
  ⟨some 83, .call .deep (.v (.clo F.hallmarkref03_Rise [] [])) [.t 82], some (80, false)⟩,
  ⟨some 84, .un .not (.t 83), some (80, false)⟩,
  ⟨some 85, .pick (.t 80) (.v (.bool true)) (.t 84), some (72, true)⟩,
  ⟨some 86, .pick (.t 72) (.t 85) (.v (.bool false)), none⟩]
def r10 : List AO := [⟨some 2, .asg (.v (.bool false)), none⟩]
def r11 : List AO := [⟨some 87, .fadr 3 (.t 1), none⟩,
  ⟨some 88, .take 1 false (.t 87), none⟩,
  ⟨some 89, .call .deep (.v (.clo F.hallmarkref03_All [] [])) [.t 88], none⟩,
  ⟨some 2, .asg (.t 89), none⟩]
def body : AC := .seq (.reg r0 [1]) (.seq (.seq (.reg r1 [1, 10]) (.cond (.t 10) (.seq (.reg r2 [2]) (.ret)) (.skip))) (.seq (.seq (.reg r3 [1, 29]) (.cond (.t 29) (.seq (.reg r4 [2]) (.ret)) (.skip))) (.seq (.seq (.reg r5 [1, 48]) (.cond (.t 48) (.seq (.reg r6 [2]) (.ret)) (.skip))) (.seq (.seq (.reg r7 [1, 68]) (.cond (.t 68) (.seq (.reg r8 [2]) (.ret)) (.skip))) (.seq (.seq (.reg r9 [1, 86]) (.cond (.t 86) (.seq (.reg r10 [2]) (.ret)) (.skip))) (.seq (.reg r11 [2]) (.ret)))))))
def fn : AFun := ⟨[.val], 90, [.tmp 2], [], body⟩
end hallmarkref03_Formed
namespace hallmarkref03_Weight
def r0 : List AO := [⟨some 1, .box (.t 0), none⟩,
  ⟨some 2, .asg (.v (.int .i64 0)), none⟩]
def r1 : List AO := [⟨some 5, .fadr 1 (.t 1), none⟩,
  ⟨some 6, .load 1 false (.t 5), none⟩,
  ⟨some 7, .len true (.t 6), none⟩,
  ⟨some 8, .bin .add (.v (.int .i64 1)) (.t 7), none⟩,
  ⟨some 9, .fadr 2 (.t 1), none⟩,
  ⟨some 10, .load 1 false (.t 9), none⟩,
  ⟨some 11, .len true (.t 10), none⟩,
  ⟨some 12, .bin .add (.t 8) (.t 11), none⟩,
  ⟨some 3, .asg (.t 12), none⟩]
def r2 : List AO := [⟨some 13, .fadr 0 (.t 1), none⟩,
  ⟨some 14, .load 1 false (.t 13), none⟩,
  ⟨some 15, .bin .eql (.t 14) (.v (.int .i64 3)), none⟩,
  ⟨some 16, .mv (.t 15), none⟩,
  ⟨some 17, .fadr 1 (.t 1), some (16, true)⟩,
  ⟨some 18, .load 1 false (.t 17), some (16, true)⟩,
  ⟨some 19, .idxS (.t 18) (.v (.int .i64 0)), some (16, true)⟩,
  ⟨some 20, .bin .eql (.t 19) (.v (.int .u8 45)), some (16, true)⟩,
  ⟨some 21, .pick (.t 16) (.t 20) (.v (.bool false)), none⟩]
def r3 : List AO := [⟨some 22, .mv (.t 3), none⟩,
  ⟨some 23, .bin .sub (.t 22) (.v (.int .i64 1)), none⟩,
  ⟨some 3, .asg (.t 23), none⟩]
def r4 : List AO := [⟨some 4, .asg (.v (.int .i64 0)), none⟩]
def r5 : List AO := [⟨some 24, .mv (.t 4), none⟩,
  ⟨some 25, .fadr 3 (.t 1), none⟩,
  ⟨some 26, .load 1 false (.t 25), none⟩,
  ⟨some 27, .len false (.t 26), none⟩,
  ⟨some 28, .bin .lss (.t 24) (.t 27), none⟩]
def r7 : List AO := [⟨some 31, .mv (.t 3), none⟩,
  ⟨some 32, .fadr 3 (.t 1), none⟩,
  ⟨some 33, .load 1 false (.t 32), none⟩,
  ⟨some 34, .mv (.t 4), none⟩,
  ⟨some 35, .iadr 5 (.t 33) (.t 34), none⟩,
  ⟨some 36, .load 5 true (.t 35), none⟩,
  ⟨some 37, .call .deep (.v (.clo F.hallmarkref03_Weight [] [])) [.t 36], none⟩,
  ⟨some 38, .bin .add (.t 31) (.t 37), none⟩,
  ⟨some 3, .asg (.t 38), none⟩]
def r8 : List AO := [⟨some 39, .fadr 0 (.t 1), none⟩,
  ⟨some 40, .load 1 false (.t 39), none⟩,
  ⟨some 41, .bin .eql (.t 40) (.v (.int .i64 6)), none⟩]
def r9 : List AO := [⟨some 42, .mv (.t 3), none⟩,
  ⟨some 43, .fadr 4 (.t 1), none⟩,
  ⟨some 44, .load 1 false (.t 43), none⟩,
  ⟨some 45, .mv (.t 4), none⟩,
  ⟨some 46, .iadr 1 (.t 44) (.t 45), none⟩,
  ⟨some 47, .load 1 false (.t 46), none⟩,
  ⟨some 48, .len true (.t 47), none⟩,
  ⟨some 49, .bin .add (.v (.int .i64 1)) (.t 48), none⟩,
  ⟨some 50, .bin .add (.t 42) (.t 49), none⟩,
  ⟨some 3, .asg (.t 50), none⟩]
def r6 : List AO := [⟨some 29, .mv (.t 4), none⟩,
  ⟨some 30, .bin .add (.t 29) (.v (.int .i64 1)), none⟩,
  ⟨some 4, .asg (.t 30), none⟩]
def l1 : AC := .seq (.seq (.reg r5 [1, 3, 4, 28]) (.cond (.t 28) (.skip) (.exit 0))) (.seq (.block 1 (.seq (.reg r7 [1, 3, 4]) (.seq (.reg r8 [1, 3, 4, 41]) (.cond (.t 41) (.reg r9 [1, 3, 4]) (.skip))))) (.reg r6 [1, 3, 4]))
def r10 : List AO := [⟨some 51, .mv (.t 3), none⟩,
  ⟨some 2, .asg (.t 51), none⟩]
def body : AC := .seq (.reg r0 [1]) (.seq (.reg r1 [1, 3]) (.seq (.seq (.reg r2 [1, 3, 21]) (.cond (.t 21) (.reg r3 [1, 3]) (.skip))) (.seq (.seq (.reg r4 [1, 3, 4]) (.block 0 (.loop [1, 3, 4] l1))) (.seq (.reg r10 [2]) (.ret)))))
def fn : AFun := ⟨[.val], 52, [.tmp 2], [], body⟩
end hallmarkref03_Weight
namespace value_Depth
def r0 : List AO := [⟨some 1, .box (.t 0), none⟩,
  ⟨some 2, .asg (.v (.int .i64 0)), none⟩]
def r1 : List AO := [⟨some 6, .fadr 0 (.t 1), none⟩,
  ⟨some 7, .load 1 false (.t 6), none⟩,
  ⟨some 8, .bin .neq (.t 7) (.v (.int .i64 5)), none⟩,
  ⟨some 9, .mv (.t 8), none⟩,
  ⟨some 10, .fadr 0 (.t 1), some (9, true)⟩,
  ⟨some 11, .load 1 false (.t 10), some (9, true)⟩,
  ⟨some 12, .bin .neq (.t 11) (.v (.int .i64 6)), some (9, true)⟩,
  ⟨some 13, .pick (.t 9) (.t 12) (.v (.bool false)), none⟩]
def r2 : List AO := [⟨some 2, .asg (.v (.int .i64 0)), none⟩]
def r3 : List AO := [⟨some 3, .asg (.v (.int .i64 0)), none⟩]
def r4 : List AO := [⟨some 14, .fadr 3 (.t 1), none⟩,
  ⟨some 15, .take 1 false (.t 14), none⟩,
  ⟨some 16, .len false (.t 15), none⟩,
  ⟨some 17, .mv (.v (.int .i64 0)), none⟩]
def r5 : List AO := [⟨some 18, .bin .lss (.t 17) (.t 16), none⟩]
def r6 : List AO := [⟨some 19, .iadr 5 (.t 15) (.t 17), none⟩,
  ⟨some 20, .load 5 true (.t 19), none⟩,
  ⟨some 5, .alloc [.av (.int .i64 0), .av (.str []), .av (.str []), .own 5 [], .own 1 []], none⟩,
  ⟨none, .store 5 (.t 5) (.t 20), none⟩]
def r7 : List AO := [⟨some 21, .mv (.t 3), none⟩,
  ⟨some 22, .take 5 true (.t 5), none⟩,
  ⟨some 23, .call .deep (.v (.clo F.value_Depth [] [])) [.t 22], none⟩,
  ⟨some 24, .mm true [.t 21, .t 23], none⟩,
  ⟨some 3, .asg (.t 24), none⟩]
def r8 : List AO := [⟨some 25, .bin .add (.t 17) (.v (.int .i64 1)), none⟩,
  ⟨some 17, .mv (.t 25), none⟩]
def l1 : AC := .seq (.reg r5 [3, 15, 16, 17, 18]) (.seq (.cond (.t 18) (.skip) (.exit 0)) (.seq (.block 1 (.seq (.reg r6 [3, 5, 15, 16, 17]) (.reg r7 [3, 15, 16, 17]))) (.reg r8 [3, 15, 16, 17])))
def r9 : List AO := [⟨some 26, .mv (.t 3), none⟩,
  ⟨some 27, .bin .add (.t 26) (.v (.int .i64 1)), none⟩,
  ⟨some 2, .asg (.t 27), none⟩]
def body : AC := .seq (.reg r0 [1]) (.seq (.seq (.reg r1 [1, 13]) (.cond (.t 13) (.seq (.reg r2 [2]) (.ret)) (.skip))) (.seq (.reg r3 [1, 3]) (.seq (.seq (.reg r4 [3, 15, 16, 17]) (.block 0 (.loop [3, 15, 16, 17] l1))) (.seq (.reg r9 [2]) (.ret)))))
def fn : AFun := ⟨[.val], 28, [.tmp 2], [], body⟩
end value_Depth
namespace hallmarkref03_Depth
def r0 : List AO := [⟨some 1, .box (.t 0), none⟩,
  ⟨some 2, .asg (.v (.int .i64 0)), none⟩]
def r1 : List AO := [⟨some 6, .fadr 0 (.t 1), none⟩,
  ⟨some 7, .load 1 false (.t 6), none⟩,
  ⟨some 8, .bin .lss (.t 7) (.v (.int .i64 5)), none⟩]
def r2 : List AO := [⟨some 2, .asg (.v (.int .i64 0)), none⟩]
def r3 : List AO := [⟨some 3, .asg (.v (.int .i64 1)), none⟩]
def r4 : List AO := [⟨some 4, .asg (.v (.int .i64 0)), none⟩]
def r5 : List AO := [⟨some 9, .mv (.t 4), none⟩,
  ⟨some 10, .fadr 3 (.t 1), none⟩,
  ⟨some 11, .load 1 false (.t 10), none⟩,
  ⟨some 12, .len false (.t 11), none⟩,
  ⟨some 13, .bin .lss (.t 9) (.t 12), none⟩]
def r7 : List AO := [⟨some 16, .fadr 3 (.t 1), none⟩,
  ⟨some 17, .load 1 false (.t 16), none⟩,
  ⟨some 18, .mv (.t 4), none⟩,
  ⟨some 19, .iadr 5 (.t 17) (.t 18), none⟩,
  ⟨some 20, .load 5 true (.t 19), none⟩,
  ⟨some 21, .call .deep (.v (.clo F.hallmarkref03_Depth [] [])) [.t 20], none⟩,
  ⟨some 5, .asg (.t 21), none⟩]
def r8 : List AO := [⟨some 22, .mv (.t 5), none⟩,
  ⟨some 23, .bin .add (.t 22) (.v (.int .i64 1)), none⟩,
  ⟨some 24, .mv (.t 3), none⟩,
  ⟨some 25, .bin .gtr (.t 23) (.t 24), none⟩]
def r9 : List AO := [⟨some 26, .mv (.t 5), none⟩,
  ⟨some 27, .bin .add (.t 26) (.v (.int .i64 1)), none⟩,
  ⟨some 3, .asg (.t 27), none⟩]
def r6 : List AO := [⟨some 14, .mv (.t 4), none⟩,
  ⟨some 15, .bin .add (.t 14) (.v (.int .i64 1)), none⟩,
  ⟨some 4, .asg (.t 15), none⟩]
def l1 : AC := .seq (.seq (.reg r5 [1, 3, 4, 13]) (.cond (.t 13) (.skip) (.exit 0))) (.seq (.block 1 (.seq (.reg r7 [1, 3, 4, 5]) (.seq (.reg r8 [1, 3, 4, 5, 25]) (.cond (.t 25) (.reg r9 [1, 3, 4]) (.skip))))) (.reg r6 [1, 3, 4]))
def r10 : List AO := [⟨some 28, .mv (.t 3), none⟩,
  ⟨some 2, .asg (.t 28), none⟩]
def body : AC := .seq (.reg r0 [1]) (.seq (.seq (.reg r1 [1, 8]) (.cond (.t 8) (.seq (.reg r2 [2]) (.ret)) (.skip))) (.seq (.reg r3 [1, 3]) (.seq (.seq (.reg r4 [1, 3, 4]) (.block 0 (.loop [1, 3, 4] l1))) (.seq (.reg r10 [2]) (.ret)))))
def fn : AFun := ⟨[.val], 29, [.tmp 2], [], body⟩
end hallmarkref03_Depth
namespace strings_TrimPrefix
def r0 : List AO := [⟨some 4, .asg (.v (.str [])), none⟩]
def r1 : List AO := [⟨some 5, .mv (.t 0), none⟩,
  ⟨some 6, .mv (.t 1), none⟩,
  ⟨some 7, .call .deep (.v (.clo F.internal_stringslite_TrimPrefix [] [])) [.t 5, .t 6], none⟩,
  ⟨some 4, .asg (.t 7), none⟩]
def body : AC := .seq (.reg r0 [0, 1]) (.seq (.reg r1 [4]) (.ret))
def fn : AFun := ⟨[.val, .val], 8, [.tmp 4], [], body⟩
end strings_TrimPrefix
namespace hallmarkref03_Parts
def r0 : List AO := [⟨some 2, .box (.t 0), none⟩,
  ⟨some 4, .asg (.v (.int .i64 0)), none⟩]
def r1 : List AO := [⟨some 7, .fadr 4 (.t 2), none⟩,
  ⟨some 8, .load 1 false (.t 7), none⟩,
  ⟨some 9, .len false (.t 8), none⟩,
  ⟨some 10, .bin .add (.v (.int .i64 1)) (.t 9), none⟩,
  ⟨some 5, .asg (.t 10), none⟩]
def r2 : List AO := [⟨some 6, .asg (.v (.int .i64 0)), none⟩]
def r3 : List AO := [⟨some 11, .mv (.t 6), none⟩,
  ⟨some 12, .fadr 3 (.t 2), none⟩,
  ⟨some 13, .load 1 false (.t 12), none⟩,
  ⟨some 14, .len false (.t 13), none⟩,
  ⟨some 15, .bin .lss (.t 11) (.t 14), none⟩,
  ⟨some 16, .mv (.t 15), none⟩,
  ⟨some 17, .mv (.t 5), some (16, true)⟩,
  ⟨some 18, .mv (.t 1), some (16, true)⟩,
  ⟨some 19, .bin .leq (.t 17) (.t 18), some (16, true)⟩,
  ⟨some 20, .pick (.t 16) (.t 19) (.v (.bool false)), none⟩]
def r5 : List AO := [⟨some 23, .mv (.t 5), none⟩,
  ⟨some 24, .fadr 3 (.t 2), none⟩,
  ⟨some 25, .load 1 false (.t 24), none⟩,
  ⟨some 26, .mv (.t 6), none⟩,
  ⟨some 27, .iadr 5 (.t 25) (.t 26), none⟩,
  ⟨some 28, .load 5 true (.t 27), none⟩,
  ⟨some 29, .mv (.t 1), none⟩,
  ⟨some 30, .mv (.t 5), none⟩,
  ⟨some 31, .bin .sub (.t 29) (.t 30), none⟩,
  ⟨some 32, .call .deep (.v (.clo F.hallmarkref03_Parts [] [])) [.t 28, .t 31], none⟩,
  ⟨some 33, .bin .add (.t 23) (.t 32), none⟩,
  ⟨some 5, .asg (.t 33), none⟩]
def r4 : List AO := [⟨some 21, .mv (.t 6), none⟩,
  ⟨some 22, .bin .add (.t 21) (.v (.int .i64 1)), none⟩,
  ⟨some 6, .asg (.t 22), none⟩]
def l1 : AC := .seq (.seq (.reg r3 [1, 2, 5, 6, 20]) (.cond (.t 20) (.skip) (.exit 0))) (.seq (.block 1 (.reg r5 [1, 2, 5, 6])) (.reg r4 [1, 2, 5, 6]))
def r6 : List AO := [⟨some 34, .mv (.t 5), none⟩,
  ⟨some 4, .asg (.t 34), none⟩]
def body : AC := .seq (.reg r0 [1, 2]) (.seq (.reg r1 [1, 2, 5]) (.seq (.seq (.reg r2 [1, 2, 5, 6]) (.block 0 (.loop [1, 2, 5, 6] l1))) (.seq (.reg r6 [4]) (.ret))))
def fn : AFun := ⟨[.val, .val], 35, [.tmp 4], [], body⟩
end hallmarkref03_Parts
namespace hallmarkref03_Number
def r0 : List AO := [⟨some 2, .asg (.v (.bool false)), none⟩]
def r1 : List AO := [⟨some 5, .mv (.t 0), none⟩,
  ⟨some 3, .asg (.t 5), none⟩]
def r2 : List AO := [⟨some 6, .mv (.t 0), none⟩,
  ⟨some 7, .len true (.t 6), none⟩,
  ⟨some 8, .bin .gtr (.t 7) (.v (.int .i64 0)), none⟩,
  ⟨some 9, .mv (.t 8), none⟩,
  ⟨some 10, .mv (.t 0), some (9, true)⟩,
  ⟨some 11, .idxS (.t 10) (.v (.int .i64 0)), some (9, true)⟩,
  ⟨some 12, .bin .eql (.t 11) (.v (.int .u8 45)), some (9, true)⟩,
  ⟨some 13, .pick (.t 9) (.t 12) (.v (.bool false)), none⟩]
def r3 : List AO := [⟨some 14, .mv (.t 0), none⟩,
  ⟨some 15, .slc true 1 (.t 14) (some (.v (.int .i64 1))) none, none⟩,
  ⟨some 3, .asg (.t 15), none⟩]
def r4 : List AO := [⟨some 4, .asg (.v (.int .i64 0)), none⟩]
def r5 : List AO := [⟨some 16, .mv (.t 4), none⟩,
  ⟨some 17, .mv (.t 3), none⟩,
  ⟨some 18, .len true (.t 17), none⟩,
  ⟨some 19, .bin .lss (.t 16) (.t 18), none⟩]
def r7 : List AO := [⟨some 22, .mv (.t 3), none⟩,
  ⟨some 23, .mv (.t 4), none⟩,
  ⟨some 24, .idxS (.t 22) (.t 23), none⟩,
  ⟨some 25, .bin .lss (.t 24) (.v (.int .u8 48)), none⟩,
  ⟨some 26, .mv (.t 25), none⟩,
  ⟨some 27, .mv (.t 3), some (26, false)⟩,
  ⟨some 28, .mv (.t 4), some (26, false)⟩,
  ⟨some 29, .idxS (.t 27) (.t 28), some (26, false)⟩,
  ⟨some 30, .bin .gtr (.t 29) (.v (.int .u8 57)), some (26, false)⟩,
  ⟨some 31, .pick (.t 26) (.v (.bool true)) (.t 30), none⟩]
def r8 : List AO := [⟨some 2, .asg (.v (.bool false)), none⟩]
def r6 : List AO := [⟨some 20, .mv (.t 4), none⟩,
  ⟨some 21, .bin .add (.t 20) (.v (.int .i64 1)), none⟩,
  ⟨some 4, .asg (.t 21), none⟩]
def l1 : AC := .seq (.seq (.reg r5 [0, 3, 4, 19]) (.cond (.t 19) (.skip) (.exit 0))) (.seq (.block 1 (.seq (.reg r7 [0, 3, 4, 31]) (.cond (.t 31) (.seq (.reg r8 [2]) (.ret)) (.skip)))) (.reg r6 [0, 3, 4]))
def r9 : List AO := [⟨some 32, .mv (.t 3), none⟩,
  ⟨some 33, .len true (.t 32), none⟩,
  ⟨some 34, .bin .eql (.t 33) (.v (.int .i64 0)), none⟩,
  ⟨some 35, .mv (.t 34), none⟩,
  ⟨some 36, .mv (.t 3), some (35, false)⟩,
  ⟨some 37, .idxS (.t 36) (.v (.int .i64 0)), some (35, false)⟩,
  ⟨some 38, .bin .eql (.t 37) (.v (.int .u8 48)), some (35, false)⟩,
  ⟨some 39, .mv (.t 38), some (35, false)⟩,
  ⟨some 40, .mv (.t 0), some (39, true)⟩,
  ⟨some 41, .bin .neq (.t 40) (.v (.str [48])), some (39, true)⟩,
  ⟨some 42, .pick (.t 39) (.t 41) (.v (.bool false)), some (35, false)⟩,
  ⟨some 43, .pick (.t 35) (.v (.bool true)) (.t 42), none⟩]
def r10 : List AO := [⟨some 2, .asg (.v (.bool false)), none⟩]
def r11 : List AO := [⟨some 2, .asg (.v (.bool true)), none⟩]
def body : AC := .seq (.reg r0 [0]) (.seq (.reg r1 [0, 3]) (.seq (.seq (.reg r2 [0, 3, 13]) (.cond (.t 13) (.reg r3 [0, 3]) (.skip))) (.seq (.seq (.reg r4 [0, 3, 4]) (.block 0 (.loop [0, 3, 4] l1))) (.seq (.seq (.reg r9 [43]) (.cond (.t 43) (.seq (.reg r10 [2]) (.ret)) (.skip))) (.seq (.reg r11 [2]) (.ret))))))
def fn : AFun := ⟨[.val], 44, [.tmp 2], [], body⟩
end hallmarkref03_Number
namespace hallmarkref03_UTF
def r0 : List AO := [⟨some 2, .asg (.v (.bool false)), none⟩]
def r1 : List AO := [⟨some 3, .asg (.v (.int .i64 0)), none⟩]
def r2 : List AO := [⟨some 5, .mv (.t 3), none⟩,
  ⟨some 6, .mv (.t 0), none⟩,
  ⟨some 7, .len true (.t 6), none⟩,
  ⟨some 8, .bin .lss (.t 5) (.t 7), none⟩]
def r3 : List AO := [⟨some 9, .mv (.t 0), none⟩,
  ⟨some 10, .mv (.t 3), none⟩,
  ⟨some 11, .call .deep (.v (.clo F.hallmarkref03_width [] [])) [.t 9, .t 10], none⟩,
  ⟨some 4, .asg (.t 11), none⟩]
def r4 : List AO := [⟨some 12, .mv (.t 4), none⟩,
  ⟨some 13, .bin .eql (.t 12) (.v (.int .i64 0)), none⟩]
def r5 : List AO := [⟨some 2, .asg (.v (.bool false)), none⟩]
def r6 : List AO := [⟨some 14, .mv (.t 3), none⟩,
  ⟨some 15, .mv (.t 4), none⟩,
  ⟨some 16, .bin .add (.t 14) (.t 15), none⟩,
  ⟨some 3, .asg (.t 16), none⟩]
def l1 : AC := .seq (.seq (.reg r2 [0, 3, 8]) (.cond (.t 8) (.skip) (.exit 0))) (.block 1 (.seq (.reg r3 [0, 3, 4]) (.seq (.seq (.reg r4 [0, 3, 4, 13]) (.cond (.t 13) (.seq (.reg r5 [2]) (.ret)) (.skip))) (.reg r6 [0, 3]))))
def r7 : List AO := [⟨some 2, .asg (.v (.bool true)), none⟩]
def body : AC := .seq (.reg r0 [0]) (.seq (.seq (.reg r1 [0, 3]) (.block 0 (.loop [0, 3] l1))) (.seq (.reg r7 [2]) (.ret)))
def fn : AFun := ⟨[.val], 17, [.tmp 2], [], body⟩
end hallmarkref03_UTF
namespace hallmarkref03_Rise
def r0 : List AO := [⟨some 2, .asg (.v (.bool false)), none⟩]
def r1 : List AO := [⟨some 3, .asg (.v (.int .i64 0)), none⟩]
def r2 : List AO := [⟨some 4, .mv (.t 3), none⟩,
  ⟨some 5, .mv (.t 0), none⟩,
  ⟨some 6, .len false (.t 5), none⟩,
  ⟨some 7, .bin .lss (.t 4) (.t 6), none⟩]
def r4 : List AO := [⟨some 10, .mv (.t 0), none⟩,
  ⟨some 11, .mv (.t 3), none⟩,
  ⟨some 12, .iadr 1 (.t 10) (.t 11), none⟩,
  ⟨some 13, .load 1 false (.t 12), none⟩,
  ⟨some 14, .call .deep (.v (.clo F.hallmarkref03_UTF [] [])) [.t 13], none⟩,
  ⟨some 15, .un .not (.t 14), none⟩]
def r5 : List AO := [⟨some 2, .asg (.v (.bool false)), none⟩]
def r6 : List Ph := [.bag false [] [] [(0, ⟨some 16, .mv (.t 3), none⟩),
    (1, ⟨some 17, .bin .gtr (.t 16) (.v (.int .i64 0)), none⟩),
    (2, ⟨some 18, .mv (.t 17), none⟩),
    (3, ⟨some 19, .mv (.t 0), some (18, true)⟩),
    (4, ⟨some 20, .mv (.t 3), some (18, true)⟩),
    (5, ⟨some 21, .bin .sub (.t 20) (.v (.int .i64 1)), some (18, true)⟩),
    (6, ⟨some 22, .iadr 1 (.t 19) (.t 21), some (18, true)⟩),
    (7, ⟨some 23, .load 1 false (.t 22), some (18, true)⟩),
    (8, ⟨some 24, .mv (.t 0), some (18, true)⟩),
    (9, ⟨some 25, .mv (.t 3), some (18, true)⟩),
    (10, ⟨some 26, .iadr 1 (.t 24) (.t 25), some (18, true)⟩),
    (11, ⟨some 27, .load 1 false (.t 26), some (18, true)⟩),
    (12, ⟨some 28, .bin .geq (.t 23) (.t 27), some (18, true)⟩),
    (13, ⟨some 29, .pick (.t 18) (.t 28) (.v (.bool false)), none⟩)]]
def r7 : List AO := [⟨some 2, .asg (.v (.bool false)), none⟩]
def r3 : List AO := [⟨some 8, .mv (.t 3), none⟩,
  ⟨some 9, .bin .add (.t 8) (.v (.int .i64 1)), none⟩,
  ⟨some 3, .asg (.t 9), none⟩]
def l1 : AC := .seq (.seq (.reg r2 [0, 3, 7]) (.cond (.t 7) (.skip) (.exit 0))) (.seq (.block 1 (.seq (.seq (.reg r4 [0, 3, 15]) (.cond (.t 15) (.seq (.reg r5 [2]) (.ret)) (.skip))) (.seq (.dreg r6 [0, 3, 29]) (.cond (.t 29) (.seq (.reg r7 [2]) (.ret)) (.skip))))) (.reg r3 [0, 3]))
def r8 : List AO := [⟨some 2, .asg (.v (.bool true)), none⟩]
def body : AC := .seq (.reg r0 [0]) (.seq (.seq (.reg r1 [0, 3]) (.block 0 (.loop [0, 3] l1))) (.seq (.reg r8 [2]) (.ret)))
def fn : AFun := ⟨[.val], 30, [.tmp 2], [], body⟩
end hallmarkref03_Rise
namespace hallmarkref03_All
def r0 : List AO := [⟨some 2, .asg (.v (.bool false)), none⟩]
def r1 : List AO := [⟨some 3, .asg (.v (.int .i64 0)), none⟩]
def r2 : List AO := [⟨some 4, .mv (.t 3), none⟩,
  ⟨some 5, .mv (.t 0), none⟩,
  ⟨some 6, .len false (.t 5), none⟩,
  ⟨some 7, .bin .lss (.t 4) (.t 6), none⟩]
def r4 : List AO := [⟨some 10, .mv (.t 0), none⟩,
  ⟨some 11, .mv (.t 3), none⟩,
  ⟨some 12, .iadr 5 (.t 10) (.t 11), none⟩,
  ⟨some 13, .load 5 true (.t 12), none⟩,
  ⟨some 14, .call .deep (.v (.clo F.hallmarkref03_Formed [] [])) [.t 13], none⟩,
  ⟨some 15, .un .not (.t 14), none⟩]
def r5 : List AO := [⟨some 2, .asg (.v (.bool false)), none⟩]
def r3 : List AO := [⟨some 8, .mv (.t 3), none⟩,
  ⟨some 9, .bin .add (.t 8) (.v (.int .i64 1)), none⟩,
  ⟨some 3, .asg (.t 9), none⟩]
def l1 : AC := .seq (.seq (.reg r2 [0, 3, 7]) (.cond (.t 7) (.skip) (.exit 0))) (.seq (.block 1 (.seq (.reg r4 [0, 3, 15]) (.cond (.t 15) (.seq (.reg r5 [2]) (.ret)) (.skip)))) (.reg r3 [0, 3]))
def r6 : List AO := [⟨some 2, .asg (.v (.bool true)), none⟩]
def body : AC := .seq (.reg r0 [0]) (.seq (.seq (.reg r1 [0, 3]) (.block 0 (.loop [0, 3] l1))) (.seq (.reg r6 [2]) (.ret)))
def fn : AFun := ⟨[.val], 16, [.tmp 2], [], body⟩
end hallmarkref03_All
namespace internal_stringslite_TrimPrefix
def r0 : List AO := [⟨some 4, .asg (.v (.str [])), none⟩]
def r1 : List AO := [⟨some 5, .mv (.t 0), none⟩,
  ⟨some 6, .mv (.t 1), none⟩,
  ⟨some 7, .call .deep (.v (.clo F.internal_stringslite_HasPrefix [] [])) [.t 5, .t 6], none⟩]
def r2 : List AO := [⟨some 8, .mv (.t 0), none⟩,
  ⟨some 9, .mv (.t 1), none⟩,
  ⟨some 10, .len true (.t 9), none⟩,
  ⟨some 11, .slc true 1 (.t 8) (some (.t 10)) none, none⟩,
  ⟨some 4, .asg (.t 11), none⟩]
def r3 : List AO := [⟨some 12, .mv (.t 0), none⟩,
  ⟨some 4, .asg (.t 12), none⟩]
def body : AC := .seq (.reg r0 [0, 1]) (.seq (.seq (.reg r1 [0, 1, 7]) (.cond (.t 7) (.seq (.reg r2 [4]) (.ret)) (.skip))) (.seq (.reg r3 [4]) (.ret)))
def fn : AFun := ⟨[.val, .val], 13, [.tmp 4], [], body⟩
end internal_stringslite_TrimPrefix
namespace hallmarkref03_width
def r0 : List AO := [⟨some 4, .asg (.v (.int .i64 0)), none⟩]
def r1 : List AO := [⟨some 8, .mv (.t 0), none⟩,
  ⟨some 9, .mv (.t 1), none⟩,
  ⟨some 10, .idxS (.t 8) (.t 9), none⟩,
  ⟨some 5, .asg (.t 10), none⟩]
def r2 : List AO := [⟨some 11, .mv (.t 5), none⟩,
  ⟨some 12, .bin .lss (.t 11) (.v (.int .u8 128)), none⟩]
def r3 : List AO := [⟨some 4, .asg (.v (.int .i64 1)), none⟩]
def r4 : List AO := [⟨some 13, .mv (.t 5), none⟩,
  ⟨some 14, .bin .geq (.t 13) (.v (.int .u8 194)), none⟩,
  ⟨some 15, .mv (.t 14), none⟩,
  ⟨some 16, .mv (.t 5), some (15, true)⟩,
  ⟨some 17, .bin .leq (.t 16) (.v (.int .u8 223)), some (15, true)⟩,
  ⟨some 18, .pick (.t 15) (.t 17) (.v (.bool false)), none⟩,
  ⟨some 19, .mv (.t 18), none⟩,
  ⟨some 20, .mv (.t 0), some (19, true)⟩,
  ⟨some 21, .mv (.t 1), some (19, true)⟩,
  ⟨some 22, .bin .add (.t 21) (.v (.int .i64 1)), some (19, true)⟩,
  ⟨some 23, .call .deep (.v (.clo F.hallmarkref03_trail [] [])) [.t 20, .t 22, .v (.int .i64 1), .v (.int .u8 128), .v (.int .u8 191)], some (19, true)⟩,
  ⟨some 24, .pick (.t 19) (.t 23) (.v (.bool false)), none⟩]
def r5 : List AO := [⟨some 4, .asg (.v (.int .i64 2)), none⟩]
def r6 : List AO := [⟨some 6, .asg (.v (.int .u8 128)), none⟩]
def r7 : List AO := [⟨some 7, .asg (.v (.int .u8 191)), none⟩]
def r8 : List AO := [⟨some 25, .mv (.t 5), none⟩,
  ⟨some 26, .bin .eql (.t 25) (.v (.int .u8 224)), none⟩]
def r9 : List AO := [⟨some 6, .asg (.v (.int .u8 160)), none⟩]
def r10 : List AO := [⟨some 27, .mv (.t 5), none⟩,
  ⟨some 28, .bin .eql (.t 27) (.v (.int .u8 237)), none⟩]
def r11 : List AO := [⟨some 7, .asg (.v (.int .u8 159)), none⟩]
def r12 : List AO := [⟨some 29, .mv (.t 5), none⟩,
  ⟨some 30, .bin .eql (.t 29) (.v (.int .u8 240)), none⟩]
def r13 : List AO := [⟨some 6, .asg (.v (.int .u8 144)), none⟩]
def r14 : List AO := [⟨some 31, .mv (.t 5), none⟩,
  ⟨some 32, .bin .eql (.t 31) (.v (.int .u8 244)), none⟩]
def r15 : List AO := [⟨some 7, .asg (.v (.int .u8 143)), none⟩]
def r16 : List AO := [⟨some 33, .mv (.t 5), none⟩,
  ⟨some 34, .bin .geq (.t 33) (.v (.int .u8 224)), none⟩,
  ⟨some 35, .mv (.t 34), none⟩,
  ⟨some 36, .mv (.t 5), some (35, true)⟩,
  ⟨some 37, .bin .leq (.t 36) (.v (.int .u8 239)), some (35, true)⟩,
  ⟨some 38, .pick (.t 35) (.t 37) (.v (.bool false)), none⟩,
  ⟨some 39, .mv (.t 38), none⟩,
  ⟨some 40, .mv (.t 0), some (39, true)⟩,
  ⟨some 41, .mv (.t 1), some (39, true)⟩,
  ⟨some 42, .bin .add (.t 41) (.v (.int .i64 1)), some (39, true)⟩,
  ⟨some 43, .mv (.t 6), some (39, true)⟩,
  ⟨some 44, .mv (.t 7), some (39, true)⟩,
  ⟨some 45, .call .deep (.v (.clo F.hallmarkref03_trail [] [])) [.t 40, .t 42, .v (.int .i64 2), .t 43, .t 44], some (39, true)⟩,
  ⟨some 46, .pick (.t 39) (.t 45) (.v (.bool false)), none⟩]
def r17 : List AO := [⟨some 4, .asg (.v (.int .i64 3)), none⟩]
def r18 : List AO := [⟨some 47, .mv (.t 5), none⟩,
  ⟨some 48, .bin .geq (.t 47) (.v (.int .u8 240)), none⟩,
  ⟨some 49, .mv (.t 48), none⟩,
  ⟨some 50, .mv (.t 5), some (49, true)⟩,
  ⟨some 51, .bin .leq (.t 50) (.v (.int .u8 244)), some (49, true)⟩,
  ⟨some 52, .pick (.t 49) (.t 51) (.v (.bool false)), none⟩,
  ⟨some 53, .mv (.t 52), none⟩,
  ⟨some 54, .mv (.t 0), some (53, true)⟩,
  ⟨some 55, .mv (.t 1), some (53, true)⟩,
  ⟨some 56, .bin .add (.t 55) (.v (.int .i64 1)), some (53, true)⟩,
  ⟨some 57, .mv (.t 6), some (53, true)⟩,
  ⟨some 58, .mv (.t 7), some (53, true)⟩,
  ⟨some 59, .call .deep (.v (.clo F.hallmarkref03_trail [] [])) [.t 54, .t 56, .v (.int .i64 3), .t 57, .t 58], some (53, true)⟩,
  ⟨some 60, .pick (.t 53) (.t 59) (.v (.bool false)), none⟩]
def r19 : List AO := [⟨some 4, .asg (.v (.int .i64 4)), none⟩]
def r20 : List AO := [⟨some 4, .asg (.v (.int .i64 0)), none⟩]
def body : AC := .seq (.reg r0 [0, 1]) (.seq (.reg r1 [0, 1, 5]) (.seq (.seq (.reg r2 [0, 1, 5, 12]) (.cond (.t 12) (.seq (.reg r3 [4]) (.ret)) (.skip))) (.seq (.seq (.reg r4 [0, 1, 5, 24]) (.cond (.t 24) (.seq (.reg r5 [4]) (.ret)) (.skip))) (.seq (.reg r6 [0, 1, 5, 6]) (.seq (.reg r7 [0, 1, 5, 6, 7]) (.seq (.seq (.reg r8 [0, 1, 5, 6, 7, 26]) (.cond (.t 26) (.reg r9 [0, 1, 5, 6, 7]) (.skip))) (.seq (.seq (.reg r10 [0, 1, 5, 6, 7, 28]) (.cond (.t 28) (.reg r11 [0, 1, 5, 6, 7]) (.skip))) (.seq (.seq (.reg r12 [0, 1, 5, 6, 7, 30]) (.cond (.t 30) (.reg r13 [0, 1, 5, 6, 7]) (.skip))) (.seq (.seq (.reg r14 [0, 1, 5, 6, 7, 32]) (.cond (.t 32) (.reg r15 [0, 1, 5, 6, 7]) (.skip))) (.seq (.seq (.reg r16 [0, 1, 5, 6, 7, 46]) (.cond (.t 46) (.seq (.reg r17 [4]) (.ret)) (.skip))) (.seq (.seq (.reg r18 [60]) (.cond (.t 60) (.seq (.reg r19 [4]) (.ret)) (.skip))) (.seq (.reg r20 [4]) (.ret)))))))))))))
def fn : AFun := ⟨[.val, .val], 61, [.tmp 4], [], body⟩
end hallmarkref03_width
namespace internal_stringslite_HasPrefix
def r0 : List AO := [⟨some 4, .asg (.v (.bool false)), none⟩]
def r1 : List AO := [⟨some 5, .mv (.t 0), none⟩,
  ⟨some 6, .len true (.t 5), none⟩,
  ⟨some 7, .mv (.t 1), none⟩,
  ⟨some 8, .len true (.t 7), none⟩,
  ⟨some 9, .bin .geq (.t 6) (.t 8), none⟩,
  ⟨some 10, .mv (.t 9), none⟩,
  ⟨some 11, .mv (.t 0), some (10, true)⟩,
  ⟨some 12, .mv (.t 1), some (10, true)⟩,
  ⟨some 13, .len true (.t 12), some (10, true)⟩,
  ⟨some 14, .slc true 1 (.t 11) none (some (.t 13)), some (10, true)⟩,
  ⟨some 15, .mv (.t 1), some (10, true)⟩,
  ⟨some 16, .bin .eql (.t 14) (.t 15), some (10, true)⟩,
  ⟨some 17, .pick (.t 10) (.t 16) (.v (.bool false)), none⟩,
  ⟨some 4, .asg (.t 17), none⟩]
def body : AC := .seq (.reg r0 [0, 1]) (.seq (.reg r1 [4]) (.ret))
def fn : AFun := ⟨[.val, .val], 18, [.tmp 4], [], body⟩
end internal_stringslite_HasPrefix
namespace hallmarkref03_trail
def r0 : List AO := [⟨some 10, .asg (.v (.bool false)), none⟩]
def r1 : List AO := [⟨some 12, .mv (.t 1), none⟩,
  ⟨some 13, .mv (.t 2), none⟩,
  ⟨some 14, .bin .add (.t 12) (.t 13), none⟩,
  ⟨some 15, .mv (.t 0), none⟩,
  ⟨some 16, .len true (.t 15), none⟩,
  ⟨some 17, .bin .gtr (.t 14) (.t 16), none⟩]
def r2 : List AO := [⟨some 10, .asg (.v (.bool false)), none⟩]
def r3 : List AO := [⟨some 11, .asg (.v (.int .i64 0)), none⟩]
def r4 : List AO := [⟨some 18, .mv (.t 11), none⟩,
  ⟨some 19, .mv (.t 2), none⟩,
  ⟨some 20, .bin .lss (.t 18) (.t 19), none⟩]
def r6 : List AO := [⟨some 23, .mv (.t 0), none⟩,
  ⟨some 24, .mv (.t 1), none⟩,
  ⟨some 25, .mv (.t 11), none⟩,
  ⟨some 26, .bin .add (.t 24) (.t 25), none⟩,
  ⟨some 27, .idxS (.t 23) (.t 26), none⟩,
  ⟨some 28, .bin .lss (.t 27) (.v (.int .u8 128)), none⟩,
  ⟨some 29, .mv (.t 28), none⟩,
  ⟨some 30, .mv (.t 0), some (29, false)⟩,
  ⟨some 31, .mv (.t 1), some (29, false)⟩,
  ⟨some 32, .mv (.t 11), some (29, false)⟩,
  ⟨some 33, .bin .add (.t 31) (.t 32), some (29, false)⟩,
  ⟨some 34, .idxS (.t 30) (.t 33), some (29, false)⟩,
  ⟨some 35, .bin .gtr (.t 34) (.v (.int .u8 191)), some (29, false)⟩,
  ⟨some 36, .pick (.t 29) (.v (.bool true)) (.t 35), none⟩]
def r7 : List AO := [⟨some 10, .asg (.v (.bool false)), none⟩]
def r5 : List AO := [⟨some 21, .mv (.t 11), none⟩,
  ⟨some 22, .bin .add (.t 21) (.v (.int .i64 1)), none⟩,
  ⟨some 11, .asg (.t 22), none⟩]
def l1 : AC := .seq (.seq (.reg r4 [0, 1, 2, 3, 4, 11, 20]) (.cond (.t 20) (.skip) (.exit 0))) (.seq (.block 1 (.seq (.reg r6 [0, 1, 2, 3, 4, 11, 36]) (.cond (.t 36) (.seq (.reg r7 [10]) (.ret)) (.skip)))) (.reg r5 [0, 1, 2, 3, 4, 11]))
def r8 : List AO := [⟨some 37, .mv (.t 0), none⟩,
  ⟨some 38, .mv (.t 1), none⟩,
  ⟨some 39, .idxS (.t 37) (.t 38), none⟩,
  ⟨some 40, .mv (.t 3), none⟩,
  ⟨some 41, .bin .geq (.t 39) (.t 40), none⟩,
  ⟨some 42, .mv (.t 41), none⟩,
  ⟨some 43, .mv (.t 0), some (42, true)⟩,
  ⟨some 44, .mv (.t 1), some (42, true)⟩,
  ⟨some 45, .idxS (.t 43) (.t 44), some (42, true)⟩,
  ⟨some 46, .mv (.t 4), some (42, true)⟩,
  ⟨some 47, .bin .leq (.t 45) (.t 46), some (42, true)⟩,
  ⟨some 48, .pick (.t 42) (.t 47) (.v (.bool false)), none⟩,
  ⟨some 10, .asg (.t 48), none⟩]
def body : AC := .seq (.reg r0 [0, 1, 2, 3, 4]) (.seq (.seq (.reg r1 [0, 1, 2, 3, 4, 17]) (.cond (.t 17) (.seq (.reg r2 [10]) (.ret)) (.skip))) (.seq (.seq (.reg r3 [0, 1, 2, 3, 4, 11]) (.block 0 (.loop [0, 1, 2, 3, 4, 11] l1))) (.seq (.reg r8 [10]) (.ret))))
def fn : AFun := ⟨[.val, .val, .val, .val, .val], 49, [.tmp 10], [], body⟩
end hallmarkref03_trail
end Hm
