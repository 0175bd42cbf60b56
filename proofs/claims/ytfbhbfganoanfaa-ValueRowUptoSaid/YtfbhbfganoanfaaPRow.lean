/- The cleaned code of the functions that the law reaches, printed by program. Conditions: none (definitions). -/
import Derived.Test.YtfbhbfganoanfaaHA
set_option maxRecDepth 100000
namespace Hm
namespace F
abbrev hallmarklaw03_small : Nat := 6
abbrev hallmarkref03_Formed : Nat := 7
abbrev hallmarklaw03_ValueRow : Nat := 12
abbrev value_Cmp : Nat := 13
abbrev hallmarkref03_Like : Nat := 14
abbrev hallmarkref03_Parts : Nat := 16
abbrev hallmarkref03_Number : Nat := 17
abbrev hallmarkref03_UTF : Nat := 18
abbrev hallmarkref03_Rise : Nat := 19
abbrev hallmarkref03_All : Nat := 20
abbrev value_side_alike : Nat := 35
abbrev value_side_number : Nat := 36
abbrev value_side_text : Nat := 37
abbrev value_side_array : Nat := 38
abbrev value_side_object : Nat := 39
abbrev cmp_Compare_int : Nat := 40
abbrev hallmarkref03_width : Nat := 42
abbrev tens_Cmp : Nat := 46
abbrev strings_Compare : Nat := 47
abbrev slices_CompareFunc_LValue_LValue_Value_Value : Nat := 48
abbrev slices_Compare_Lstring_string : Nat := 49
abbrev cmp_Or_int : Nat := 50
abbrev cmp_isNaN_int : Nat := 51
abbrev hallmarkref03_trail : Nat := 53
abbrev tens_Formed : Nat := 54
abbrev tens_split : Nat := 55
abbrev tens_size : Nat := 56
abbrev cmp_Compare_string : Nat := 57
abbrev cmp_isNaN_string : Nat := 60
abbrev internal_bytealg_CompareString : Nat := 58
end F
namespace hallmarklaw03_small
def r0 : List AO := [⟨some 1, .box (.t 0), none⟩,
  ⟨some 2, .asg (.v (.bool false)), none⟩]
def r1 : List AO := [⟨some 3, .take 5 true (.t 1), none⟩,
  ⟨some 4, .call .deep (.v (.clo F.hallmarkref03_Parts [] [])) [.t 3, .v (.int .i64 10000)], none⟩,
  ⟨some 5, .bin .leq (.t 4) (.v (.int .i64 10000)), none⟩,
  ⟨some 2, .asg (.t 5), none⟩]
def body : AC := .seq (.reg r0 [1]) (.seq (.reg r1 [2]) (.ret))
def fn : AFun := ⟨[.val], 6, [.tmp 2], [], body⟩
end hallmarklaw03_small
namespace hallmarkref03_Formed
def r0 : List AO := [⟨some 1, .box (.t 0), none⟩,
  ⟨some 2, .asg (.v (.bool false)), none⟩]
def r1 : List AO := [⟨some 3, .fadr 0 (.t 1), none⟩,
  ⟨some 4, .load 1 false (.t 3), none⟩,
  ⟨some 5, .bin .lss (.t 4) (.v (.int .i64 0)), none⟩,
  ⟨some 6, .mv (.t 5), none⟩,
  ⟨some 7, .fadr 0 (.t 1), some (6, false)⟩,
  ⟨some 8, .load 1 false (.t 7), some (6, false)⟩,
  ⟨some 9, .bin .gtr (.t 8) (.v (.int .i64 6)), some (6, false)⟩,
  ⟨some 10, .pick (.t 6) (.v (.bool true)) (.t 9), none⟩]
def r2 : List AO := [⟨some 2, .asg (.v (.bool false)), none⟩]
def r3 : List AO := [⟨some 11, .fadr 0 (.t 1), none⟩,
  ⟨some 12, .load 1 false (.t 11), none⟩,
  ⟨some 13, .bin .eql (.t 12) (.v (.int .i64 3)), none⟩,
  ⟨some 14, .mv (.t 13), none⟩,
  ⟨some 15, .fadr 1 (.t 1), some (14, true)⟩,
  ⟨some 16, .load 1 false (.t 15), some (14, true)⟩,
  ⟨some 17, .call .deep (.v (.clo F.hallmarkref03_Number [] [])) [.t 16], some (14, true)⟩,
  ⟨some 18, .un .not (.t 17), some (14, true)⟩,
  ⟨some 19, .pick (.t 14) (.t 18) (.v (.bool false)), none⟩,
  ⟨some 20, .mv (.t 19), none⟩,
  ⟨some 21, .fadr 0 (.t 1), some (20, false)⟩,
  ⟨some 22, .load 1 false (.t 21), some (20, false)⟩,
  ⟨some 23, .bin .neq (.t 22) (.v (.int .i64 3)), some (20, false)⟩,
  ⟨some 24, .mv (.t 23), some (20, false)⟩,
  ⟨some 25, .fadr 1 (.t 1), some (24, true)⟩,
  ⟨some 26, .load 1 false (.t 25), some (24, true)⟩,
  ⟨some 27, .bin .neq (.t 26) (.v (.str [])), some (24, true)⟩,
  ⟨some 28, .pick (.t 24) (.t 27) (.v (.bool false)), some (20, false)⟩,
  ⟨some 29, .pick (.t 20) (.v (.bool true)) (.t 28), none⟩]
def r4 : List AO := [⟨some 2, .asg (.v (.bool false)), none⟩]
def r5 : List AO := [⟨some 30, .fadr 0 (.t 1), none⟩,
  ⟨some 31, .load 1 false (.t 30), none⟩,
  ⟨some 32, .bin .eql (.t 31) (.v (.int .i64 4)), none⟩,
  ⟨some 33, .mv (.t 32), none⟩,
  ⟨some 34, .fadr 2 (.t 1), some (33, true)⟩,
  ⟨some 35, .load 1 false (.t 34), some (33, true)⟩,
  ⟨some 36, .call .deep (.v (.clo F.hallmarkref03_UTF [] [])) [.t 35], some (33, true)⟩,
  ⟨some 37, .un .not (.t 36), some (33, true)⟩,
  ⟨some 38, .pick (.t 33) (.t 37) (.v (.bool false)), none⟩,
  ⟨some 39, .mv (.t 38), none⟩,
  ⟨some 40, .fadr 0 (.t 1), some (39, false)⟩,
  ⟨some 41, .load 1 false (.t 40), some (39, false)⟩,
  ⟨some 42, .bin .neq (.t 41) (.v (.int .i64 4)), some (39, false)⟩,
  ⟨some 43, .mv (.t 42), some (39, false)⟩,
  ⟨some 44, .fadr 2 (.t 1), some (43, true)⟩,
  ⟨some 45, .load 1 false (.t 44), some (43, true)⟩,
  ⟨some 46, .bin .neq (.t 45) (.v (.str [])), some (43, true)⟩,
  ⟨some 47, .pick (.t 43) (.t 46) (.v (.bool false)), some (39, false)⟩,
  ⟨some 48, .pick (.t 39) (.v (.bool true)) (.t 47), none⟩]
def r6 : List AO := [⟨some 2, .asg (.v (.bool false)), none⟩]
def r7 : List AO := [⟨some 49, .fadr 0 (.t 1), none⟩,
  ⟨some 50, .load 1 false (.t 49), none⟩,
  ⟨some 51, .bin .lss (.t 50) (.v (.int .i64 5)), none⟩,
  ⟨some 52, .mv (.t 51), none⟩,
  ⟨some 53, .fadr 3 (.t 1), some (52, true)⟩,
  ⟨some 54, .load 1 false (.t 53), some (52, true)⟩,
  ⟨some 55, .len false (.t 54), some (52, true)⟩,
  ⟨some 56, .bin .gtr (.t 55) (.v (.int .i64 0)), some (52, true)⟩,
  ⟨some 57, .pick (.t 52) (.t 56) (.v (.bool false)), none⟩,
  ⟨some 58, .mv (.t 57), none⟩,
  ⟨some 59, .fadr 0 (.t 1), some (58, false)⟩,
  ⟨some 60, .load 1 false (.t 59), some (58, false)⟩,
  ⟨some 61, .bin .lss (.t 60) (.v (.int .i64 6)), some (58, false)⟩,
  ⟨some 62, .mv (.t 61), some (58, false)⟩,
  ⟨some 63, .fadr 4 (.t 1), some (62, true)⟩,
  ⟨some 64, .load 1 false (.t 63), some (62, true)⟩,
  ⟨some 65, .len false (.t 64), some (62, true)⟩,
  ⟨some 66, .bin .gtr (.t 65) (.v (.int .i64 0)), some (62, true)⟩,
  ⟨some 67, .pick (.t 62) (.t 66) (.v (.bool false)), some (58, false)⟩,
  ⟨some 68, .pick (.t 58) (.v (.bool true)) (.t 67), none⟩]
def r8 : List AO := [⟨some 2, .asg (.v (.bool false)), none⟩]
def r9 : List AO := [⟨some 69, .fadr 0 (.t 1), none⟩,
  ⟨some 70, .load 1 false (.t 69), none⟩,
  ⟨some 71, .bin .eql (.t 70) (.v (.int .i64 6)), none⟩,
  ⟨some 72, .mv (.t 71), none⟩,
  ⟨some 73, .fadr 4 (.t 1), some (72, true)⟩,
  ⟨some 74, .load 1 false (.t 73), some (72, true)⟩,
  ⟨some 75, .len false (.t 74), some (72, true)⟩,
  ⟨some 76, .fadr 3 (.t 1), some (72, true)⟩,
  ⟨some 77, .load 1 false (.t 76), some (72, true)⟩,
  ⟨some 78, .len false (.t 77), some (72, true)⟩,
  ⟨some 79, .bin .neq (.t 75) (.t 78), some (72, true)⟩,
  ⟨some 80, .mv (.t 79), some (72, true)⟩,
  ⟨some 81, .fadr 4 (.t 1), some (80, false)⟩,
  ⟨some 82, .load 1 false (.t 81), some (80, false)⟩,
  ⟨some 83, .call .deep (.v (.clo F.hallmarkref03_Rise [] [])) [.t 82], some (80, false)⟩,
  ⟨some 84, .un .not (.t 83), some (80, false)⟩,
  ⟨some 85, .pick (.t 80) (.v (.bool true)) (.t 84), some (72, true)⟩,
  ⟨some 86, .pick (.t 72) (.t 85) (.v (.bool false)), none⟩]
def r10 : List AO := [⟨some 2, .asg (.v (.bool false)), none⟩]
def r11 : List AO := [⟨some 87, .fadr 3 (.t 1), none⟩,
  ⟨some 88, .take 1 false (.t 87), none⟩,
  ⟨some 89, .call .deep (.v (.clo F.hallmarkref03_All [] [])) [.t 88], none⟩,
  ⟨some 2, .asg (.t 89), none⟩]
def body : AC := .seq (.reg r0 [1]) (.seq (.seq (.reg r1 [1, 10]) (.cond (.t 10) (.seq (.reg r2 [2]) (.ret)) (.skip))) (.seq (.seq (.reg r3 [1, 29]) (.cond (.t 29) (.seq (.reg r4 [2]) (.ret)) (.skip))) (.seq (.seq (.reg r5 [1, 48]) (.cond (.t 48) (.seq (.reg r6 [2]) (.ret)) (.skip))) (.seq (.seq (.reg r7 [1, 68]) (.cond (.t 68) (.seq (.reg r8 [2]) (.ret)) (.skip))) (.seq (.seq (.reg r9 [1, 86]) (.cond (.t 86) (.seq (.reg r10 [2]) (.ret)) (.skip))) (.seq (.reg r11 [2]) (.ret)))))))
def fn : AFun := ⟨[.val], 90, [.tmp 2], [], body⟩
end hallmarkref03_Formed
namespace hallmarklaw03_ValueRow
def r0 : List AO := [⟨some 3, .box (.t 0), none⟩,
  ⟨some 4, .box (.t 1), none⟩,
  ⟨some 5, .box (.t 2), none⟩,
  ⟨some 6, .asg (.v (.bool false)), none⟩]
def r1 : List AO := [⟨some 11, .build [.av (.int .i64 0), .av (.str []), .av (.str []), .own 5 [], .own 1 []] [(0, 1, .v (.int .i64 0))], none⟩,
  ⟨some 12, .build [.av (.int .i64 0), .av (.str []), .av (.str []), .own 5 [], .own 1 []] [(0, 1, .v (.int .i64 5))], none⟩,
  ⟨some 13, .call .deep (.v (.clo F.value_Cmp [] [])) [.t 11, .t 12], none⟩,
  ⟨some 14, .bin .neq (.t 13) (.v (.int .i64 (-1))), none⟩]
def r2 : List AO := [⟨some 6, .asg (.v (.bool false)), none⟩]
def r3 : List AO := [⟨some 15, .load 5 true (.t 3), none⟩,
  ⟨some 16, .call .deep (.v (.clo F.hallmarklaw03_small [] [])) [.t 15], none⟩,
  ⟨some 17, .un .not (.t 16), none⟩,
  ⟨some 18, .mv (.t 17), none⟩,
  ⟨some 19, .load 5 true (.t 4), some (18, false)⟩,
  ⟨some 20, .call .deep (.v (.clo F.hallmarklaw03_small [] [])) [.t 19], some (18, false)⟩,
  ⟨some 21, .un .not (.t 20), some (18, false)⟩,
  ⟨some 22, .pick (.t 18) (.v (.bool true)) (.t 21), none⟩,
  ⟨some 23, .mv (.t 22), none⟩,
  ⟨some 24, .load 5 true (.t 5), some (23, false)⟩,
  ⟨some 25, .call .deep (.v (.clo F.hallmarklaw03_small [] [])) [.t 24], some (23, false)⟩,
  ⟨some 26, .un .not (.t 25), some (23, false)⟩,
  ⟨some 27, .pick (.t 23) (.v (.bool true)) (.t 26), none⟩]
def r4 : List AO := [⟨some 6, .asg (.v (.bool true)), none⟩]
def r5 : List AO := [⟨some 28, .load 5 true (.t 3), none⟩,
  ⟨some 29, .call .deep (.v (.clo F.hallmarkref03_Formed [] [])) [.t 28], none⟩,
  ⟨some 30, .un .not (.t 29), none⟩,
  ⟨some 31, .mv (.t 30), none⟩,
  ⟨some 32, .load 5 true (.t 4), some (31, false)⟩,
  ⟨some 33, .call .deep (.v (.clo F.hallmarkref03_Formed [] [])) [.t 32], some (31, false)⟩,
  ⟨some 34, .un .not (.t 33), some (31, false)⟩,
  ⟨some 35, .pick (.t 31) (.v (.bool true)) (.t 34), none⟩,
  ⟨some 36, .mv (.t 35), none⟩,
  ⟨some 37, .load 5 true (.t 5), some (36, false)⟩,
  ⟨some 38, .call .deep (.v (.clo F.hallmarkref03_Formed [] [])) [.t 37], some (36, false)⟩,
  ⟨some 39, .un .not (.t 38), some (36, false)⟩,
  ⟨some 40, .pick (.t 36) (.v (.bool true)) (.t 39), none⟩]
def r6 : List AO := [⟨some 6, .asg (.v (.bool true)), none⟩]
def r7 : List AO := [⟨some 41, .load 5 true (.t 3), none⟩,
  ⟨some 42, .load 5 true (.t 4), none⟩,
  ⟨some 43, .call .deep (.v (.clo F.value_Cmp [] [])) [.t 41, .t 42], none⟩,
  ⟨some 7, .asg (.t 43), none⟩]
def r8 : List AO := [⟨some 44, .load 5 true (.t 4), none⟩,
  ⟨some 45, .load 5 true (.t 3), none⟩,
  ⟨some 46, .call .deep (.v (.clo F.value_Cmp [] [])) [.t 44, .t 45], none⟩,
  ⟨some 8, .asg (.t 46), none⟩]
def r9 : List AO := [⟨some 47, .load 5 true (.t 4), none⟩,
  ⟨some 48, .load 5 true (.t 5), none⟩,
  ⟨some 49, .call .deep (.v (.clo F.value_Cmp [] [])) [.t 47, .t 48], none⟩,
  ⟨some 9, .asg (.t 49), none⟩]
def r10 : List AO := [⟨some 50, .load 5 true (.t 3), none⟩,
  ⟨some 51, .take 5 true (.t 5), none⟩,
  ⟨some 52, .call .deep (.v (.clo F.value_Cmp [] [])) [.t 50, .t 51], none⟩,
  ⟨some 10, .asg (.t 52), none⟩]
def r11 : List AO := [⟨some 53, .mv (.t 7), none⟩,
  ⟨some 54, .bin .lss (.t 53) (.v (.int .i64 (-1))), none⟩,
  ⟨some 55, .mv (.t 54), none⟩,
  ⟨some 56, .mv (.t 7), some (55, false)⟩,
  ⟨some 57, .bin .gtr (.t 56) (.v (.int .i64 1)), some (55, false)⟩,
  ⟨some 58, .pick (.t 55) (.v (.bool true)) (.t 57), none⟩,
  ⟨some 59, .mv (.t 58), none⟩,
  ⟨some 60, .mv (.t 7), some (59, false)⟩,
  ⟨some 61, .mv (.t 8), some (59, false)⟩,
  ⟨some 62, .un .neg (.t 61), some (59, false)⟩,
  ⟨some 63, .bin .neq (.t 60) (.t 62), some (59, false)⟩,
  ⟨some 64, .pick (.t 59) (.v (.bool true)) (.t 63), none⟩]
def r12 : List AO := [⟨some 6, .asg (.v (.bool false)), none⟩]
def r13 : List AO := [⟨some 65, .mv (.t 7), none⟩,
  ⟨some 66, .bin .leq (.t 65) (.v (.int .i64 0)), none⟩,
  ⟨some 67, .mv (.t 66), none⟩,
  ⟨some 68, .mv (.t 9), some (67, true)⟩,
  ⟨some 69, .bin .leq (.t 68) (.v (.int .i64 0)), some (67, true)⟩,
  ⟨some 70, .pick (.t 67) (.t 69) (.v (.bool false)), none⟩,
  ⟨some 71, .mv (.t 70), none⟩,
  ⟨some 72, .mv (.t 10), some (71, true)⟩,
  ⟨some 73, .bin .gtr (.t 72) (.v (.int .i64 0)), some (71, true)⟩,
  ⟨some 74, .pick (.t 71) (.t 73) (.v (.bool false)), none⟩]
def r14 : List AO := [⟨some 6, .asg (.v (.bool false)), none⟩]
def r15 : List AO := [⟨some 75, .load 5 true (.t 3), none⟩,
  ⟨some 76, .load 5 true (.t 3), none⟩,
  ⟨some 77, .call .deep (.v (.clo F.value_Cmp [] [])) [.t 75, .t 76], none⟩,
  ⟨some 78, .bin .eql (.t 77) (.v (.int .i64 0)), none⟩,
  ⟨some 79, .mv (.t 78), none⟩,
  ⟨some 80, .mv (.t 7), some (79, true)⟩,
  ⟨some 81, .bin .neq (.t 80) (.v (.int .i64 0)), some (79, true)⟩,
  ⟨some 82, .mv (.t 81), some (79, true)⟩,
  ⟨some 83, .take 5 true (.t 3), some (82, false)⟩,
  ⟨some 84, .take 5 true (.t 4), some (82, false)⟩,
  ⟨some 85, .call .deep (.v (.clo F.hallmarkref03_Like [] [])) [.t 83, .t 84], some (82, false)⟩,
  ⟨some 86, .pick (.t 82) (.v (.bool true)) (.t 85), some (79, true)⟩,
  ⟨some 87, .pick (.t 79) (.t 86) (.v (.bool false)), none⟩,
  ⟨some 6, .asg (.t 87), none⟩]
def body : AC := .seq (.reg r0 [3, 4, 5]) (.seq (.seq (.reg r1 [3, 4, 5, 14]) (.cond (.t 14) (.seq (.reg r2 [6]) (.ret)) (.skip))) (.seq (.seq (.reg r3 [3, 4, 5, 27]) (.cond (.t 27) (.seq (.reg r4 [6]) (.ret)) (.skip))) (.seq (.seq (.reg r5 [3, 4, 5, 40]) (.cond (.t 40) (.seq (.reg r6 [6]) (.ret)) (.skip))) (.seq (.reg r7 [3, 4, 5, 7]) (.seq (.reg r8 [3, 4, 5, 7, 8]) (.seq (.reg r9 [3, 4, 5, 7, 8, 9]) (.seq (.reg r10 [3, 4, 7, 8, 9, 10]) (.seq (.seq (.reg r11 [3, 4, 7, 9, 10, 64]) (.cond (.t 64) (.seq (.reg r12 [6]) (.ret)) (.skip))) (.seq (.seq (.reg r13 [3, 4, 7, 74]) (.cond (.t 74) (.seq (.reg r14 [6]) (.ret)) (.skip))) (.seq (.reg r15 [6]) (.ret)))))))))))
def fn : AFun := ⟨[.val, .val, .val], 88, [.tmp 6], [], body⟩
end hallmarklaw03_ValueRow
namespace value_Cmp
def r0 : List AO := [⟨some 2, .box (.t 0), none⟩,
  ⟨some 3, .box (.t 1), none⟩,
  ⟨some 4, .asg (.v (.int .i64 0)), none⟩]
def r1 : List AO := [⟨some 6, .build [.av .nilf, .av .nilf, .av .nilf, .av .nilf, .av .nilf, .av .nilf, .av .nilf] [(0, 1, .v (.clo F.value_side_alike [] [])), (1, 1, .v (.clo F.value_side_alike [] [])), (2, 1, .v (.clo F.value_side_alike [] [])), (3, 1, .v (.clo F.value_side_number [] [])), (4, 1, .v (.clo F.value_side_text [] [])), (5, 1, .v (.clo F.value_side_array [] [])), (6, 1, .v (.clo F.value_side_object [] []))], none⟩,
  ⟨some 5, .alloc [.av .nilf, .av .nilf, .av .nilf, .av .nilf, .av .nilf, .av .nilf, .av .nilf], none⟩,
  ⟨none, .store 7 (.t 5) (.t 6), none⟩]
def r2 : List AO := [⟨some 7, .fadr 0 (.t 2), none⟩,
  ⟨some 8, .load 1 false (.t 7), none⟩,
  ⟨some 9, .fadr 0 (.t 3), none⟩,
  ⟨some 10, .load 1 false (.t 9), none⟩,
  ⟨some 11, .bin .neq (.t 8) (.t 10), none⟩,
  ⟨some 12, .mv (.t 11), none⟩,
  ⟨some 13, .fadr 0 (.t 2), some (12, false)⟩,
  ⟨some 14, .load 1 false (.t 13), some (12, false)⟩,
  ⟨some 15, .bin .lss (.t 14) (.v (.int .i64 0)), some (12, false)⟩,
  ⟨some 16, .pick (.t 12) (.v (.bool true)) (.t 15), none⟩,
  ⟨some 17, .mv (.t 16), none⟩,
  ⟨some 18, .fadr 0 (.t 2), some (17, false)⟩,
  ⟨some 19, .load 1 false (.t 18), some (17, false)⟩,
  ⟨some 20, .bin .geq (.t 19) (.v (.int .i64 7)), some (17, false)⟩,
  ⟨some 21, .pick (.t 17) (.v (.bool true)) (.t 20), none⟩]
def r3 : List AO := [⟨some 22, .fadr 0 (.t 2), none⟩,
  ⟨some 23, .load 1 false (.t 22), none⟩,
  ⟨some 24, .fadr 0 (.t 3), none⟩,
  ⟨some 25, .load 1 false (.t 24), none⟩,
  ⟨some 26, .call .deep (.v (.clo F.cmp_Compare_int [] [])) [.t 23, .t 25], none⟩,
  ⟨some 4, .asg (.t 26), none⟩]
def r4 : List Ph := [.bag false [] [31, 32] [(0, ⟨some 27, .fadr 0 (.t 2), none⟩),
    (1, ⟨some 28, .load 1 false (.t 27), none⟩),
    (2, ⟨some 29, .iadrA 7 1 (.t 5) (.t 28), none⟩),
    (3, ⟨some 30, .load 1 false (.t 29), none⟩),
    (4, ⟨some 31, .load 5 true (.t 2), none⟩),
    (5, ⟨some 32, .load 5 true (.t 3), none⟩),
    (6, ⟨some 33, .call .deep (.t 30) [.t 31, .t 32], none⟩),
    (7, ⟨some 4, .asg (.t 33), none⟩)]]
def body : AC := .seq (.reg r0 [2, 3]) (.seq (.reg r1 [2, 3, 5]) (.seq (.seq (.reg r2 [2, 3, 5, 21]) (.cond (.t 21) (.seq (.reg r3 [4]) (.ret)) (.skip))) (.seq (.dreg r4 [4]) (.ret))))
def fn : AFun := ⟨[.val, .val], 34, [.tmp 4], [], body⟩
end value_Cmp
namespace hallmarkref03_Like
def r0 : List AO := [⟨some 2, .box (.t 0), none⟩,
  ⟨some 3, .box (.t 1), none⟩,
  ⟨some 4, .asg (.v (.bool false)), none⟩]
def r1 : List AO := [⟨some 7, .fadr 0 (.t 2), none⟩,
  ⟨some 8, .load 1 false (.t 7), none⟩,
  ⟨some 9, .fadr 0 (.t 3), none⟩,
  ⟨some 10, .load 1 false (.t 9), none⟩,
  ⟨some 11, .bin .neq (.t 8) (.t 10), none⟩,
  ⟨some 12, .mv (.t 11), none⟩,
  ⟨some 13, .fadr 1 (.t 2), some (12, false)⟩,
  ⟨some 14, .load 1 false (.t 13), some (12, false)⟩,
  ⟨some 15, .fadr 1 (.t 3), some (12, false)⟩,
  ⟨some 16, .load 1 false (.t 15), some (12, false)⟩,
  ⟨some 17, .bin .neq (.t 14) (.t 16), some (12, false)⟩,
  ⟨some 18, .pick (.t 12) (.v (.bool true)) (.t 17), none⟩,
  ⟨some 19, .mv (.t 18), none⟩,
  ⟨some 20, .fadr 2 (.t 2), some (19, false)⟩,
  ⟨some 21, .load 1 false (.t 20), some (19, false)⟩,
  ⟨some 22, .fadr 2 (.t 3), some (19, false)⟩,
  ⟨some 23, .load 1 false (.t 22), some (19, false)⟩,
  ⟨some 24, .bin .neq (.t 21) (.t 23), some (19, false)⟩,
  ⟨some 25, .pick (.t 19) (.v (.bool true)) (.t 24), none⟩,
  ⟨some 26, .mv (.t 25), none⟩,
  ⟨some 27, .fadr 4 (.t 2), some (26, false)⟩,
  ⟨some 28, .load 1 false (.t 27), some (26, false)⟩,
  ⟨some 29, .len false (.t 28), some (26, false)⟩,
  ⟨some 30, .fadr 4 (.t 3), some (26, false)⟩,
  ⟨some 31, .load 1 false (.t 30), some (26, false)⟩,
  ⟨some 32, .len false (.t 31), some (26, false)⟩,
  ⟨some 33, .bin .neq (.t 29) (.t 32), some (26, false)⟩,
  ⟨some 34, .pick (.t 26) (.v (.bool true)) (.t 33), none⟩,
  ⟨some 35, .mv (.t 34), none⟩,
  ⟨some 36, .fadr 3 (.t 2), some (35, false)⟩,
  ⟨some 37, .load 1 false (.t 36), some (35, false)⟩,
  ⟨some 38, .len false (.t 37), some (35, false)⟩,
  ⟨some 39, .fadr 3 (.t 3), some (35, false)⟩,
  ⟨some 40, .load 1 false (.t 39), some (35, false)⟩,
  ⟨some 41, .len false (.t 40), some (35, false)⟩,
  ⟨some 42, .bin .neq (.t 38) (.t 41), some (35, false)⟩,
  ⟨some 43, .pick (.t 35) (.v (.bool true)) (.t 42), none⟩]
def r2 : List AO := [⟨some 4, .asg (.v (.bool false)), none⟩]
def r3 : List AO := [⟨some 5, .asg (.v (.int .i64 0)), none⟩]
def r4 : List AO := [⟨some 44, .mv (.t 5), none⟩,
  ⟨some 45, .fadr 4 (.t 2), none⟩,
  ⟨some 46, .load 1 false (.t 45), none⟩,
  ⟨some 47, .len false (.t 46), none⟩,
  ⟨some 48, .bin .lss (.t 44) (.t 47), none⟩]
def r6 : List Ph := [.bag false [] [] [(0, ⟨some 51, .fadr 4 (.t 2), none⟩),
    (1, ⟨some 52, .load 1 false (.t 51), none⟩),
    (2, ⟨some 53, .mv (.t 5), none⟩),
    (3, ⟨some 54, .iadr 1 (.t 52) (.t 53), none⟩),
    (4, ⟨some 55, .load 1 false (.t 54), none⟩),
    (5, ⟨some 56, .fadr 4 (.t 3), none⟩),
    (6, ⟨some 57, .load 1 false (.t 56), none⟩),
    (7, ⟨some 58, .mv (.t 5), none⟩),
    (8, ⟨some 59, .iadr 1 (.t 57) (.t 58), none⟩),
    (9, ⟨some 60, .load 1 false (.t 59), none⟩),
    (10, ⟨some 61, .bin .neq (.t 55) (.t 60), none⟩)]]
def r7 : List AO := [⟨some 4, .asg (.v (.bool false)), none⟩]
def r5 : List AO := [⟨some 49, .mv (.t 5), none⟩,
  ⟨some 50, .bin .add (.t 49) (.v (.int .i64 1)), none⟩,
  ⟨some 5, .asg (.t 50), none⟩]
def l1 : AC := .seq (.seq (.reg r4 [2, 3, 5, 48]) (.cond (.t 48) (.skip) (.exit 0))) (.seq (.block 1 (.seq (.dreg r6 [2, 3, 5, 61]) (.cond (.t 61) (.seq (.reg r7 [4]) (.ret)) (.skip)))) (.reg r5 [2, 3, 5]))
def r8 : List AO := [⟨some 6, .asg (.v (.int .i64 0)), none⟩]
def r9 : List AO := [⟨some 62, .mv (.t 6), none⟩,
  ⟨some 63, .fadr 3 (.t 2), none⟩,
  ⟨some 64, .load 1 false (.t 63), none⟩,
  ⟨some 65, .len false (.t 64), none⟩,
  ⟨some 66, .bin .lss (.t 62) (.t 65), none⟩]
def r11 : List Ph := [.bag false [] [73, 78] [(0, ⟨some 69, .fadr 3 (.t 2), none⟩),
    (1, ⟨some 70, .load 1 false (.t 69), none⟩),
    (2, ⟨some 71, .mv (.t 6), none⟩),
    (3, ⟨some 72, .iadr 5 (.t 70) (.t 71), none⟩),
    (4, ⟨some 73, .load 5 true (.t 72), none⟩),
    (5, ⟨some 74, .fadr 3 (.t 3), none⟩),
    (6, ⟨some 75, .load 1 false (.t 74), none⟩),
    (7, ⟨some 76, .mv (.t 6), none⟩),
    (8, ⟨some 77, .iadr 5 (.t 75) (.t 76), none⟩),
    (9, ⟨some 78, .load 5 true (.t 77), none⟩),
    (10, ⟨some 79, .call .deep (.v (.clo F.hallmarkref03_Like [] [])) [.t 73, .t 78], none⟩),
    (11, ⟨some 80, .un .not (.t 79), none⟩)]]
def r12 : List AO := [⟨some 4, .asg (.v (.bool false)), none⟩]
def r10 : List AO := [⟨some 67, .mv (.t 6), none⟩,
  ⟨some 68, .bin .add (.t 67) (.v (.int .i64 1)), none⟩,
  ⟨some 6, .asg (.t 68), none⟩]
def l2 : AC := .seq (.seq (.reg r9 [2, 3, 6, 66]) (.cond (.t 66) (.skip) (.exit 2))) (.seq (.block 3 (.seq (.dreg r11 [2, 3, 6, 80]) (.cond (.t 80) (.seq (.reg r12 [4]) (.ret)) (.skip)))) (.reg r10 [2, 3, 6]))
def r13 : List AO := [⟨some 4, .asg (.v (.bool true)), none⟩]
def body : AC := .seq (.reg r0 [2, 3]) (.seq (.seq (.reg r1 [2, 3, 43]) (.cond (.t 43) (.seq (.reg r2 [4]) (.ret)) (.skip))) (.seq (.seq (.reg r3 [2, 3, 5]) (.block 0 (.loop [2, 3, 5] l1))) (.seq (.seq (.reg r8 [2, 3, 6]) (.block 2 (.loop [2, 3, 6] l2))) (.seq (.reg r13 [4]) (.ret)))))
def fn : AFun := ⟨[.val, .val], 81, [.tmp 4], [], body⟩
end hallmarkref03_Like
namespace hallmarkref03_Parts
def r0 : List AO := [⟨some 2, .box (.t 0), none⟩,
  ⟨some 4, .asg (.v (.int .i64 0)), none⟩]
def r1 : List AO := [⟨some 7, .fadr 4 (.t 2), none⟩,
  ⟨some 8, .load 1 false (.t 7), none⟩,
  ⟨some 9, .len false (.t 8), none⟩,
  ⟨some 10, .bin .add (.v (.int .i64 1)) (.t 9), none⟩,
  ⟨some 5, .asg (.t 10), none⟩]
def r2 : List AO := [⟨some 6, .asg (.v (.int .i64 0)), none⟩]
def r3 : List AO := [⟨some 11, .mv (.t 6), none⟩,
  ⟨some 12, .fadr 3 (.t 2), none⟩,
  ⟨some 13, .load 1 false (.t 12), none⟩,
  ⟨some 14, .len false (.t 13), none⟩,
  ⟨some 15, .bin .lss (.t 11) (.t 14), none⟩,
  ⟨some 16, .mv (.t 15), none⟩,
  ⟨some 17, .mv (.t 5), some (16, true)⟩,
  ⟨some 18, .mv (.t 1), some (16, true)⟩,
  ⟨some 19, .bin .leq (.t 17) (.t 18), some (16, true)⟩,
  ⟨some 20, .pick (.t 16) (.t 19) (.v (.bool false)), none⟩]
def r5 : List AO := [⟨some 23, .mv (.t 5), none⟩,
  ⟨some 24, .fadr 3 (.t 2), none⟩,
  ⟨some 25, .load 1 false (.t 24), none⟩,
  ⟨some 26, .mv (.t 6), none⟩,
  ⟨some 27, .iadr 5 (.t 25) (.t 26), none⟩,
  ⟨some 28, .load 5 true (.t 27), none⟩,
  ⟨some 29, .mv (.t 1), none⟩,
  ⟨some 30, .mv (.t 5), none⟩,
  ⟨some 31, .bin .sub (.t 29) (.t 30), none⟩,
  ⟨some 32, .call .deep (.v (.clo F.hallmarkref03_Parts [] [])) [.t 28, .t 31], none⟩,
  ⟨some 33, .bin .add (.t 23) (.t 32), none⟩,
  ⟨some 5, .asg (.t 33), none⟩]
def r4 : List AO := [⟨some 21, .mv (.t 6), none⟩,
  ⟨some 22, .bin .add (.t 21) (.v (.int .i64 1)), none⟩,
  ⟨some 6, .asg (.t 22), none⟩]
def l1 : AC := .seq (.seq (.reg r3 [1, 2, 5, 6, 20]) (.cond (.t 20) (.skip) (.exit 0))) (.seq (.block 1 (.reg r5 [1, 2, 5, 6])) (.reg r4 [1, 2, 5, 6]))
def r6 : List AO := [⟨some 34, .mv (.t 5), none⟩,
  ⟨some 4, .asg (.t 34), none⟩]
def body : AC := .seq (.reg r0 [1, 2]) (.seq (.reg r1 [1, 2, 5]) (.seq (.seq (.reg r2 [1, 2, 5, 6]) (.block 0 (.loop [1, 2, 5, 6] l1))) (.seq (.reg r6 [4]) (.ret))))
def fn : AFun := ⟨[.val, .val], 35, [.tmp 4], [], body⟩
end hallmarkref03_Parts
namespace hallmarkref03_Number
def r0 : List AO := [⟨some 2, .asg (.v (.bool false)), none⟩]
def r1 : List AO := [⟨some 5, .mv (.t 0), none⟩,
  ⟨some 3, .asg (.t 5), none⟩]
def r2 : List AO := [⟨some 6, .mv (.t 0), none⟩,
  ⟨some 7, .len true (.t 6), none⟩,
  ⟨some 8, .bin .gtr (.t 7) (.v (.int .i64 0)), none⟩,
  ⟨some 9, .mv (.t 8), none⟩,
  ⟨some 10, .mv (.t 0), some (9, true)⟩,
  ⟨some 11, .idxS (.t 10) (.v (.int .i64 0)), some (9, true)⟩,
  ⟨some 12, .bin .eql (.t 11) (.v (.int .u8 45)), some (9, true)⟩,
  ⟨some 13, .pick (.t 9) (.t 12) (.v (.bool false)), none⟩]
def r3 : List AO := [⟨some 14, .mv (.t 0), none⟩,
  ⟨some 15, .slc true 1 (.t 14) (some (.v (.int .i64 1))) none, none⟩,
  ⟨some 3, .asg (.t 15), none⟩]
def r4 : List AO := [⟨some 4, .asg (.v (.int .i64 0)), none⟩]
def r5 : List AO := [⟨some 16, .mv (.t 4), none⟩,
  ⟨some 17, .mv (.t 3), none⟩,
  ⟨some 18, .len true (.t 17), none⟩,
  ⟨some 19, .bin .lss (.t 16) (.t 18), none⟩]
def r7 : List AO := [⟨some 22, .mv (.t 3), none⟩,
  ⟨some 23, .mv (.t 4), none⟩,
  ⟨some 24, .idxS (.t 22) (.t 23), none⟩,
  ⟨some 25, .bin .lss (.t 24) (.v (.int .u8 48)), none⟩,
  ⟨some 26, .mv (.t 25), none⟩,
  ⟨some 27, .mv (.t 3), some (26, false)⟩,
  ⟨some 28, .mv (.t 4), some (26, false)⟩,
  ⟨some 29, .idxS (.t 27) (.t 28), some (26, false)⟩,
  ⟨some 30, .bin .gtr (.t 29) (.v (.int .u8 57)), some (26, false)⟩,
  ⟨some 31, .pick (.t 26) (.v (.bool true)) (.t 30), none⟩]
def r8 : List AO := [⟨some 2, .asg (.v (.bool false)), none⟩]
def r6 : List AO := [⟨some 20, .mv (.t 4), none⟩,
  ⟨some 21, .bin .add (.t 20) (.v (.int .i64 1)), none⟩,
  ⟨some 4, .asg (.t 21), none⟩]
def l1 : AC := .seq (.seq (.reg r5 [0, 3, 4, 19]) (.cond (.t 19) (.skip) (.exit 0))) (.seq (.block 1 (.seq (.reg r7 [0, 3, 4, 31]) (.cond (.t 31) (.seq (.reg r8 [2]) (.ret)) (.skip)))) (.reg r6 [0, 3, 4]))
def r9 : List AO := [⟨some 32, .mv (.t 3), none⟩,
  ⟨some 33, .len true (.t 32), none⟩,
  ⟨some 34, .bin .eql (.t 33) (.v (.int .i64 0)), none⟩,
  ⟨some 35, .mv (.t 34), none⟩,
  ⟨some 36, .mv (.t 3), some (35, false)⟩,
  ⟨some 37, .idxS (.t 36) (.v (.int .i64 0)), some (35, false)⟩,
  ⟨some 38, .bin .eql (.t 37) (.v (.int .u8 48)), some (35, false)⟩,
  ⟨some 39, .mv (.t 38), some (35, false)⟩,
  ⟨some 40, .mv (.t 0), some (39, true)⟩,
  ⟨some 41, .bin .neq (.t 40) (.v (.str [48])), some (39, true)⟩,
  ⟨some 42, .pick (.t 39) (.t 41) (.v (.bool false)), some (35, false)⟩,
  ⟨some 43, .pick (.t 35) (.v (.bool true)) (.t 42), none⟩]
def r10 : List AO := [⟨some 2, .asg (.v (.bool false)), none⟩]
def r11 : List AO := [⟨some 2, .asg (.v (.bool true)), none⟩]
def body : AC := .seq (.reg r0 [0]) (.seq (.reg r1 [0, 3]) (.seq (.seq (.reg r2 [0, 3, 13]) (.cond (.t 13) (.reg r3 [0, 3]) (.skip))) (.seq (.seq (.reg r4 [0, 3, 4]) (.block 0 (.loop [0, 3, 4] l1))) (.seq (.seq (.reg r9 [43]) (.cond (.t 43) (.seq (.reg r10 [2]) (.ret)) (.skip))) (.seq (.reg r11 [2]) (.ret))))))
def fn : AFun := ⟨[.val], 44, [.tmp 2], [], body⟩
end hallmarkref03_Number
namespace hallmarkref03_UTF
def r0 : List AO := [⟨some 2, .asg (.v (.bool false)), none⟩]
def r1 : List AO := [⟨some 3, .asg (.v (.int .i64 0)), none⟩]
def r2 : List AO := [⟨some 5, .mv (.t 3), none⟩,
  ⟨some 6, .mv (.t 0), none⟩,
  ⟨some 7, .len true (.t 6), none⟩,
  ⟨some 8, .bin .lss (.t 5) (.t 7), none⟩]
def r3 : List AO := [⟨some 9, .mv (.t 0), none⟩,
  ⟨some 10, .mv (.t 3), none⟩,
  ⟨some 11, .call .deep (.v (.clo F.hallmarkref03_width [] [])) [.t 9, .t 10], none⟩,
  ⟨some 4, .asg (.t 11), none⟩]
def r4 : List AO := [⟨some 12, .mv (.t 4), none⟩,
  ⟨some 13, .bin .eql (.t 12) (.v (.int .i64 0)), none⟩]
def r5 : List AO := [⟨some 2, .asg (.v (.bool false)), none⟩]
def r6 : List AO := [⟨some 14, .mv (.t 3), none⟩,
  ⟨some 15, .mv (.t 4), none⟩,
  ⟨some 16, .bin .add (.t 14) (.t 15), none⟩,
  ⟨some 3, .asg (.t 16), none⟩]
def l1 : AC := .seq (.seq (.reg r2 [0, 3, 8]) (.cond (.t 8) (.skip) (.exit 0))) (.block 1 (.seq (.reg r3 [0, 3, 4]) (.seq (.seq (.reg r4 [0, 3, 4, 13]) (.cond (.t 13) (.seq (.reg r5 [2]) (.ret)) (.skip))) (.reg r6 [0, 3]))))
def r7 : List AO := [⟨some 2, .asg (.v (.bool true)), none⟩]
def body : AC := .seq (.reg r0 [0]) (.seq (.seq (.reg r1 [0, 3]) (.block 0 (.loop [0, 3] l1))) (.seq (.reg r7 [2]) (.ret)))
def fn : AFun := ⟨[.val], 17, [.tmp 2], [], body⟩
end hallmarkref03_UTF
namespace hallmarkref03_Rise
def r0 : List AO := [⟨some 2, .asg (.v (.bool false)), none⟩]
def r1 : List AO := [⟨some 3, .asg (.v (.int .i64 0)), none⟩]
def r2 : List AO := [⟨some 4, .mv (.t 3), none⟩,
  ⟨some 5, .mv (.t 0), none⟩,
  ⟨some 6, .len false (.t 5), none⟩,
  ⟨some 7, .bin .lss (.t 4) (.t 6), none⟩]
def r4 : List AO := [⟨some 10, .mv (.t 0), none⟩,
  ⟨some 11, .mv (.t 3), none⟩,
  ⟨some 12, .iadr 1 (.t 10) (.t 11), none⟩,
  ⟨some 13, .load 1 false (.t 12), none⟩,
  ⟨some 14, .call .deep (.v (.clo F.hallmarkref03_UTF [] [])) [.t 13], none⟩,
  ⟨some 15, .un .not (.t 14), none⟩]
def r5 : List AO := [⟨some 2, .asg (.v (.bool false)), none⟩]
def r6 : List Ph := [.bag false [] [] [(0, ⟨some 16, .mv (.t 3), none⟩),
    (1, ⟨some 17, .bin .gtr (.t 16) (.v (.int .i64 0)), none⟩),
    (2, ⟨some 18, .mv (.t 17), none⟩),
    (3, ⟨some 19, .mv (.t 0), some (18, true)⟩),
    (4, ⟨some 20, .mv (.t 3), some (18, true)⟩),
    (5, ⟨some 21, .bin .sub (.t 20) (.v (.int .i64 1)), some (18, true)⟩),
    (6, ⟨some 22, .iadr 1 (.t 19) (.t 21), some (18, true)⟩),
    (7, ⟨some 23, .load 1 false (.t 22), some (18, true)⟩),
    (8, ⟨some 24, .mv (.t 0), some (18, true)⟩),
    (9, ⟨some 25, .mv (.t 3), some (18, true)⟩),
    (10, ⟨some 26, .iadr 1 (.t 24) (.t 25), some (18, true)⟩),
    (11, ⟨some 27, .load 1 false (.t 26), some (18, true)⟩),
    (12, ⟨some 28, .bin .geq (.t 23) (.t 27), some (18, true)⟩),
    (13, ⟨some 29, .pick (.t 18) (.t 28) (.v (.bool false)), none⟩)]]
def r7 : List AO := [⟨some 2, .asg (.v (.bool false)), none⟩]
def r3 : List AO := [⟨some 8, .mv (.t 3), none⟩,
  ⟨some 9, .bin .add (.t 8) (.v (.int .i64 1)), none⟩,
  ⟨some 3, .asg (.t 9), none⟩]
def l1 : AC := .seq (.seq (.reg r2 [0, 3, 7]) (.cond (.t 7) (.skip) (.exit 0))) (.seq (.block 1 (.seq (.seq (.reg r4 [0, 3, 15]) (.cond (.t 15) (.seq (.reg r5 [2]) (.ret)) (.skip))) (.seq (.dreg r6 [0, 3, 29]) (.cond (.t 29) (.seq (.reg r7 [2]) (.ret)) (.skip))))) (.reg r3 [0, 3]))
def r8 : List AO := [⟨some 2, .asg (.v (.bool true)), none⟩]
def body : AC := .seq (.reg r0 [0]) (.seq (.seq (.reg r1 [0, 3]) (.block 0 (.loop [0, 3] l1))) (.seq (.reg r8 [2]) (.ret)))
def fn : AFun := ⟨[.val], 30, [.tmp 2], [], body⟩
end hallmarkref03_Rise
namespace hallmarkref03_All
def r0 : List AO := [⟨some 2, .asg (.v (.bool false)), none⟩]
def r1 : List AO := [⟨some 3, .asg (.v (.int .i64 0)), none⟩]
def r2 : List AO := [⟨some 4, .mv (.t 3), none⟩,
  ⟨some 5, .mv (.t 0), none⟩,
  ⟨some 6, .len false (.t 5), none⟩,
  ⟨some 7, .bin .lss (.t 4) (.t 6), none⟩]
def r4 : List AO := [⟨some 10, .mv (.t 0), none⟩,
  ⟨some 11, .mv (.t 3), none⟩,
  ⟨some 12, .iadr 5 (.t 10) (.t 11), none⟩,
  ⟨some 13, .load 5 true (.t 12), none⟩,
  ⟨some 14, .call .deep (.v (.clo F.hallmarkref03_Formed [] [])) [.t 13], none⟩,
  ⟨some 15, .un .not (.t 14), none⟩]
def r5 : List AO := [⟨some 2, .asg (.v (.bool false)), none⟩]
def r3 : List AO := [⟨some 8, .mv (.t 3), none⟩,
  ⟨some 9, .bin .add (.t 8) (.v (.int .i64 1)), none⟩,
  ⟨some 3, .asg (.t 9), none⟩]
def l1 : AC := .seq (.seq (.reg r2 [0, 3, 7]) (.cond (.t 7) (.skip) (.exit 0))) (.seq (.block 1 (.seq (.reg r4 [0, 3, 15]) (.cond (.t 15) (.seq (.reg r5 [2]) (.ret)) (.skip)))) (.reg r3 [0, 3]))
def r6 : List AO := [⟨some 2, .asg (.v (.bool true)), none⟩]
def body : AC := .seq (.reg r0 [0]) (.seq (.seq (.reg r1 [0, 3]) (.block 0 (.loop [0, 3] l1))) (.seq (.reg r6 [2]) (.ret)))
def fn : AFun := ⟨[.val], 16, [.tmp 2], [], body⟩
end hallmarkref03_All
namespace value_side_alike
def r0 : List AO := [⟨some 2, .box (.t 0), none⟩,
  ⟨some 3, .box (.t 1), none⟩,
  ⟨some 4, .asg (.v (.int .i64 0)), none⟩]
def r1 : List AO := [⟨some 4, .asg (.v (.int .i64 0)), none⟩]
def body : AC := .seq (.reg r0 []) (.seq (.reg r1 [4]) (.ret))
def fn : AFun := ⟨[.val, .val], 5, [.tmp 4], [], body⟩
end value_side_alike
namespace value_side_number
def r0 : List AO := [⟨some 2, .box (.t 0), none⟩,
  ⟨some 3, .box (.t 1), none⟩,
  ⟨some 4, .asg (.v (.int .i64 0)), none⟩]
def r1 : List AO := [⟨some 8, .fadr 1 (.t 2), none⟩,
  ⟨some 9, .load 1 false (.t 8), none⟩,
  ⟨some 10, .fadr 1 (.t 3), none⟩,
  ⟨some 11, .load 1 false (.t 10), none⟩,
  ⟨some 12, .call .deep (.v (.clo F.tens_Cmp [] [])) [.t 9, .t 11], none⟩,
  ⟨some 7, .mv (.t 12), none⟩,
  ⟨some 13, .ext (.t 7) 0, none⟩,
  ⟨some 14, .ext (.t 7) 1, none⟩,
  ⟨some 5, .asg (.t 13), none⟩,
  ⟨some 6, .asg (.t 14), none⟩]
def r2 : List AO := [⟨some 15, .mv (.t 5), none⟩,
  ⟨some 4, .asg (.t 15), none⟩]
def body : AC := .seq (.reg r0 [2, 3]) (.seq (.reg r1 [5]) (.seq (.reg r2 [4]) (.ret)))
def fn : AFun := ⟨[.val, .val], 16, [.tmp 4], [], body⟩
end value_side_number
namespace value_side_text
def r0 : List AO := [⟨some 2, .box (.t 0), none⟩,
  ⟨some 3, .box (.t 1), none⟩,
  ⟨some 4, .asg (.v (.int .i64 0)), none⟩]
def r1 : List AO := [⟨some 5, .fadr 2 (.t 2), none⟩,
  ⟨some 6, .load 1 false (.t 5), none⟩,
  ⟨some 7, .fadr 2 (.t 3), none⟩,
  ⟨some 8, .load 1 false (.t 7), none⟩,
  ⟨some 9, .call .deep (.v (.clo F.strings_Compare [] [])) [.t 6, .t 8], none⟩,
  ⟨some 4, .asg (.t 9), none⟩]
def body : AC := .seq (.reg r0 [2, 3]) (.seq (.reg r1 [4]) (.ret))
def fn : AFun := ⟨[.val, .val], 10, [.tmp 4], [], body⟩
end value_side_text
namespace value_side_array
def r0 : List AO := [⟨some 2, .box (.t 0), none⟩,
  ⟨some 3, .box (.t 1), none⟩,
  ⟨some 4, .asg (.v (.int .i64 0)), none⟩]
def r1 : List AO := [⟨some 5, .fadr 3 (.t 2), none⟩,
  ⟨some 6, .take 1 false (.t 5), none⟩,
  ⟨some 7, .fadr 3 (.t 3), none⟩,
  ⟨some 8, .take 1 false (.t 7), none⟩,
  ⟨some 9, .call .deep (.v (.clo F.slices_CompareFunc_LValue_LValue_Value_Value [] [])) [.t 6, .t 8, .v (.clo F.value_Cmp [] [])], none⟩,
  ⟨some 4, .asg (.t 9), none⟩]
def body : AC := .seq (.reg r0 [2, 3]) (.seq (.reg r1 [4]) (.ret))
def fn : AFun := ⟨[.val, .val], 10, [.tmp 4], [], body⟩
end value_side_array
namespace value_side_object
def r0 : List AO := [⟨some 2, .box (.t 0), none⟩,
  ⟨some 3, .box (.t 1), none⟩,
  ⟨some 4, .asg (.v (.int .i64 0)), none⟩]
def r1 : List Ph := [.bag false [] [6, 8, 10, 11, 13] [(0, ⟨some 5, .fadr 4 (.t 2), none⟩),
    (1, ⟨some 6, .load 1 false (.t 5), none⟩),
    (2, ⟨some 7, .fadr 4 (.t 3), none⟩),
    (3, ⟨some 8, .load 1 false (.t 7), none⟩),
    (4, ⟨some 9, .call .deep (.v (.clo F.slices_Compare_Lstring_string [] [])) [.t 6, .t 8], none⟩),
    (5, ⟨some 10, .load 5 true (.t 2), none⟩),
    (6, ⟨some 11, .load 5 true (.t 3), none⟩),
    (7, ⟨some 12, .call .deep (.v (.clo F.value_side_array [] [])) [.t 10, .t 11], none⟩),
    (8, ⟨some 13, .buildS 2 1 [.av (.int .i64 0)] [(0, 1, .t 9), (1, 1, .t 12)], none⟩),
    (9, ⟨some 14, .call .deep (.v (.clo F.cmp_Or_int [] [])) [.t 13], none⟩),
    (10, ⟨some 4, .asg (.t 14), none⟩)]]
def body : AC := .seq (.reg r0 [2, 3]) (.seq (.dreg r1 [4]) (.ret))
def fn : AFun := ⟨[.val, .val], 15, [.tmp 4], [], body⟩
end value_side_object
namespace cmp_Compare_int
def r0 : List AO := [⟨some 4, .asg (.v (.int .i64 0)), none⟩]
def r1 : List AO := [⟨some 7, .mv (.t 0), none⟩,
  ⟨some 8, .call .deep (.v (.clo F.cmp_isNaN_int [] [])) [.t 7], none⟩,
  ⟨some 5, .asg (.t 8), none⟩]
def r2 : List AO := [⟨some 9, .mv (.t 1), none⟩,
  ⟨some 10, .call .deep (.v (.clo F.cmp_isNaN_int [] [])) [.t 9], none⟩,
  ⟨some 6, .asg (.t 10), none⟩]
def r3 : List AO := [⟨some 11, .mv (.t 5), none⟩]
def r4 : List AO := [⟨some 12, .mv (.t 6), none⟩]
def r5 : List AO := [⟨some 4, .asg (.v (.int .i64 0)), none⟩]
def r6 : List AO := [⟨some 4, .asg (.v (.int .i64 (-1))), none⟩]
def r7 : List AO := [⟨some 13, .mv (.t 6), none⟩]
def r8 : List AO := [⟨some 4, .asg (.v (.int .i64 1)), none⟩]
def r9 : List AO := [⟨some 14, .mv (.t 0), none⟩,
  ⟨some 15, .mv (.t 1), none⟩,
  ⟨some 16, .bin .lss (.t 14) (.t 15), none⟩]
def r10 : List AO := [⟨some 4, .asg (.v (.int .i64 (-1))), none⟩]
def r11 : List AO := [⟨some 17, .mv (.t 0), none⟩,
  ⟨some 18, .mv (.t 1), none⟩,
  ⟨some 19, .bin .gtr (.t 17) (.t 18), none⟩]
def r12 : List AO := [⟨some 4, .asg (.v (.int .i64 1)), none⟩]
def r13 : List AO := [⟨some 4, .asg (.v (.int .i64 0)), none⟩]
def body : AC := .seq (.reg r0 [0, 1]) (.seq (.reg r1 [0, 1, 5]) (.seq (.reg r2 [0, 1, 5, 6]) (.seq (.seq (.reg r3 [0, 1, 6, 11]) (.cond (.t 11) (.seq (.seq (.reg r4 [12]) (.cond (.t 12) (.seq (.reg r5 [4]) (.ret)) (.skip))) (.seq (.reg r6 [4]) (.ret))) (.skip))) (.seq (.seq (.reg r7 [0, 1, 13]) (.cond (.t 13) (.seq (.reg r8 [4]) (.ret)) (.skip))) (.seq (.seq (.reg r9 [0, 1, 16]) (.cond (.t 16) (.seq (.reg r10 [4]) (.ret)) (.skip))) (.seq (.seq (.reg r11 [19]) (.cond (.t 19) (.seq (.reg r12 [4]) (.ret)) (.skip))) (.seq (.reg r13 [4]) (.ret))))))))
def fn : AFun := ⟨[.val, .val], 20, [.tmp 4], [], body⟩
end cmp_Compare_int
namespace hallmarkref03_width
def r0 : List AO := [⟨some 4, .asg (.v (.int .i64 0)), none⟩]
def r1 : List AO := [⟨some 8, .mv (.t 0), none⟩,
  ⟨some 9, .mv (.t 1), none⟩,
  ⟨some 10, .idxS (.t 8) (.t 9), none⟩,
  ⟨some 5, .asg (.t 10), none⟩]
def r2 : List AO := [⟨some 11, .mv (.t 5), none⟩,
  ⟨some 12, .bin .lss (.t 11) (.v (.int .u8 128)), none⟩]
def r3 : List AO := [⟨some 4, .asg (.v (.int .i64 1)), none⟩]
def r4 : List AO := [⟨some 13, .mv (.t 5), none⟩,
  ⟨some 14, .bin .geq (.t 13) (.v (.int .u8 194)), none⟩,
  ⟨some 15, .mv (.t 14), none⟩,
  ⟨some 16, .mv (.t 5), some (15, true)⟩,
  ⟨some 17, .bin .leq (.t 16) (.v (.int .u8 223)), some (15, true)⟩,
  ⟨some 18, .pick (.t 15) (.t 17) (.v (.bool false)), none⟩,
  ⟨some 19, .mv (.t 18), none⟩,
  ⟨some 20, .mv (.t 0), some (19, true)⟩,
  ⟨some 21, .mv (.t 1), some (19, true)⟩,
  ⟨some 22, .bin .add (.t 21) (.v (.int .i64 1)), some (19, true)⟩,
  ⟨some 23, .call .deep (.v (.clo F.hallmarkref03_trail [] [])) [.t 20, .t 22, .v (.int .i64 1), .v (.int .u8 128), .v (.int .u8 191)], some (19, true)⟩,
  ⟨some 24, .pick (.t 19) (.t 23) (.v (.bool false)), none⟩]
def r5 : List AO := [⟨some 4, .asg (.v (.int .i64 2)), none⟩]
def r6 : List AO := [⟨some 6, .asg (.v (.int .u8 128)), none⟩]
def r7 : List AO := [⟨some 7, .asg (.v (.int .u8 191)), none⟩]
def r8 : List AO := [⟨some 25, .mv (.t 5), none⟩,
  ⟨some 26, .bin .eql (.t 25) (.v (.int .u8 224)), none⟩]
def r9 : List AO := [⟨some 6, .asg (.v (.int .u8 160)), none⟩]
def r10 : List AO := [⟨some 27, .mv (.t 5), none⟩,
  ⟨some 28, .bin .eql (.t 27) (.v (.int .u8 237)), none⟩]
def r11 : List AO := [⟨some 7, .asg (.v (.int .u8 159)), none⟩]
def r12 : List AO := [⟨some 29, .mv (.t 5), none⟩,
  ⟨some 30, .bin .eql (.t 29) (.v (.int .u8 240)), none⟩]
def r13 : List AO := [⟨some 6, .asg (.v (.int .u8 144)), none⟩]
def r14 : List AO := [⟨some 31, .mv (.t 5), none⟩,
  ⟨some 32, .bin .eql (.t 31) (.v (.int .u8 244)), none⟩]
def r15 : List AO := [⟨some 7, .asg (.v (.int .u8 143)), none⟩]
def r16 : List AO := [⟨some 33, .mv (.t 5), none⟩,
  ⟨some 34, .bin .geq (.t 33) (.v (.int .u8 224)), none⟩,
  ⟨some 35, .mv (.t 34), none⟩,
  ⟨some 36, .mv (.t 5), some (35, true)⟩,
  ⟨some 37, .bin .leq (.t 36) (.v (.int .u8 239)), some (35, true)⟩,
  ⟨some 38, .pick (.t 35) (.t 37) (.v (.bool false)), none⟩,
  ⟨some 39, .mv (.t 38), none⟩,
  ⟨some 40, .mv (.t 0), some (39, true)⟩,
  ⟨some 41, .mv (.t 1), some (39, true)⟩,
  ⟨some 42, .bin .add (.t 41) (.v (.int .i64 1)), some (39, true)⟩,
  ⟨some 43, .mv (.t 6), some (39, true)⟩,
  ⟨some 44, .mv (.t 7), some (39, true)⟩,
  ⟨some 45, .call .deep (.v (.clo F.hallmarkref03_trail [] [])) [.t 40, .t 42, .v (.int .i64 2), .t 43, .t 44], some (39, true)⟩,
  ⟨some 46, .pick (.t 39) (.t 45) (.v (.bool false)), none⟩]
def r17 : List AO := [⟨some 4, .asg (.v (.int .i64 3)), none⟩]
def r18 : List AO := [⟨some 47, .mv (.t 5), none⟩,
  ⟨some 48, .bin .geq (.t 47) (.v (.int .u8 240)), none⟩,
  ⟨some 49, .mv (.t 48), none⟩,
  ⟨some 50, .mv (.t 5), some (49, true)⟩,
  ⟨some 51, .bin .leq (.t 50) (.v (.int .u8 244)), some (49, true)⟩,
  ⟨some 52, .pick (.t 49) (.t 51) (.v (.bool false)), none⟩,
  ⟨some 53, .mv (.t 52), none⟩,
  ⟨some 54, .mv (.t 0), some (53, true)⟩,
  ⟨some 55, .mv (.t 1), some (53, true)⟩,
  ⟨some 56, .bin .add (.t 55) (.v (.int .i64 1)), some (53, true)⟩,
  ⟨some 57, .mv (.t 6), some (53, true)⟩,
  ⟨some 58, .mv (.t 7), some (53, true)⟩,
  ⟨some 59, .call .deep (.v (.clo F.hallmarkref03_trail [] [])) [.t 54, .t 56, .v (.int .i64 3), .t 57, .t 58], some (53, true)⟩,
  ⟨some 60, .pick (.t 53) (.t 59) (.v (.bool false)), none⟩]
def r19 : List AO := [⟨some 4, .asg (.v (.int .i64 4)), none⟩]
def r20 : List AO := [⟨some 4, .asg (.v (.int .i64 0)), none⟩]
def body : AC := .seq (.reg r0 [0, 1]) (.seq (.reg r1 [0, 1, 5]) (.seq (.seq (.reg r2 [0, 1, 5, 12]) (.cond (.t 12) (.seq (.reg r3 [4]) (.ret)) (.skip))) (.seq (.seq (.reg r4 [0, 1, 5, 24]) (.cond (.t 24) (.seq (.reg r5 [4]) (.ret)) (.skip))) (.seq (.reg r6 [0, 1, 5, 6]) (.seq (.reg r7 [0, 1, 5, 6, 7]) (.seq (.seq (.reg r8 [0, 1, 5, 6, 7, 26]) (.cond (.t 26) (.reg r9 [0, 1, 5, 6, 7]) (.skip))) (.seq (.seq (.reg r10 [0, 1, 5, 6, 7, 28]) (.cond (.t 28) (.reg r11 [0, 1, 5, 6, 7]) (.skip))) (.seq (.seq (.reg r12 [0, 1, 5, 6, 7, 30]) (.cond (.t 30) (.reg r13 [0, 1, 5, 6, 7]) (.skip))) (.seq (.seq (.reg r14 [0, 1, 5, 6, 7, 32]) (.cond (.t 32) (.reg r15 [0, 1, 5, 6, 7]) (.skip))) (.seq (.seq (.reg r16 [0, 1, 5, 6, 7, 46]) (.cond (.t 46) (.seq (.reg r17 [4]) (.ret)) (.skip))) (.seq (.seq (.reg r18 [60]) (.cond (.t 60) (.seq (.reg r19 [4]) (.ret)) (.skip))) (.seq (.reg r20 [4]) (.ret)))))))))))))
def fn : AFun := ⟨[.val, .val], 61, [.tmp 4], [], body⟩
end hallmarkref03_width
namespace tens_Cmp
def r0 : List AO := [⟨some 4, .asg (.v (.int .i64 0)), none⟩,
  ⟨some 5, .asg (.v (.int .i64 0)), none⟩]
def r1 : List AO := [⟨some 10, .mv (.t 0), none⟩,
  ⟨some 11, .call .deep (.v (.clo F.tens_Formed [] [])) [.t 10], none⟩,
  ⟨some 12, .un .not (.t 11), none⟩,
  ⟨some 13, .mv (.t 12), none⟩,
  ⟨some 14, .mv (.t 1), some (13, false)⟩,
  ⟨some 15, .call .deep (.v (.clo F.tens_Formed [] [])) [.t 14], some (13, false)⟩,
  ⟨some 16, .un .not (.t 15), some (13, false)⟩,
  ⟨some 17, .pick (.t 13) (.v (.bool true)) (.t 16), none⟩]
def r2 : List AO := [⟨some 4, .asg (.v (.int .i64 0)), none⟩,
  ⟨some 5, .asg (.v (.int .i64 1)), none⟩]
def r3 : List AO := [⟨some 19, .mv (.t 0), none⟩,
  ⟨some 20, .call .deep (.v (.clo F.tens_split [] [])) [.t 19], none⟩,
  ⟨some 18, .mv (.t 20), none⟩,
  ⟨some 21, .ext (.t 18) 0, none⟩,
  ⟨some 22, .ext (.t 18) 1, none⟩,
  ⟨some 6, .asg (.t 21), none⟩,
  ⟨some 7, .asg (.t 22), none⟩]
def r4 : List AO := [⟨some 24, .mv (.t 1), none⟩,
  ⟨some 25, .call .deep (.v (.clo F.tens_split [] [])) [.t 24], none⟩,
  ⟨some 23, .mv (.t 25), none⟩,
  ⟨some 26, .ext (.t 23) 0, none⟩,
  ⟨some 27, .ext (.t 23) 1, none⟩,
  ⟨some 8, .asg (.t 26), none⟩,
  ⟨some 9, .asg (.t 27), none⟩]
def r5 : List AO := [⟨some 29, .mv (.t 6), none⟩,
  ⟨some 30, .mv (.t 29), none⟩,
  ⟨some 31, .mv (.t 8), some (30, true)⟩,
  ⟨some 32, .pick (.t 30) (.t 31) (.v (.bool false)), none⟩,
  ⟨some 28, .asg (.t 32), none⟩]
def r6 : List AO := [⟨some 33, .mv (.t 9), none⟩,
  ⟨some 34, .mv (.t 7), none⟩,
  ⟨some 35, .call .deep (.v (.clo F.tens_size [] [])) [.t 33, .t 34], none⟩,
  ⟨some 4, .asg (.t 35), none⟩,
  ⟨some 5, .asg (.v (.int .i64 0)), none⟩]
def r7 : List AO := [⟨some 37, .mv (.t 6), none⟩,
  ⟨some 36, .asg (.t 37), none⟩]
def r8 : List AO := [⟨some 4, .asg (.v (.int .i64 (-1))), none⟩,
  ⟨some 5, .asg (.v (.int .i64 0)), none⟩]
def r9 : List AO := [⟨some 39, .mv (.t 8), none⟩,
  ⟨some 38, .asg (.t 39), none⟩]
def r10 : List AO := [⟨some 4, .asg (.v (.int .i64 1)), none⟩,
  ⟨some 5, .asg (.v (.int .i64 0)), none⟩]
def r11 : List AO := [⟨some 40, .mv (.t 7), none⟩,
  ⟨some 41, .mv (.t 9), none⟩,
  ⟨some 42, .call .deep (.v (.clo F.tens_size [] [])) [.t 40, .t 41], none⟩,
  ⟨some 4, .asg (.t 42), none⟩,
  ⟨some 5, .asg (.v (.int .i64 0)), none⟩]
def body : AC := .seq (.reg r0 [0, 1]) (.seq (.seq (.reg r1 [0, 1, 17]) (.cond (.t 17) (.seq (.reg r2 [4, 5]) (.ret)) (.skip))) (.seq (.reg r3 [1, 6, 7]) (.seq (.reg r4 [6, 7, 8, 9]) (.seq (.block 0 (.seq (.reg r5 [6, 7, 8, 9, 28]) (.cond (.t 28) (.seq (.reg r6 [4, 5]) (.ret)) (.seq (.reg r7 [7, 8, 9, 36]) (.cond (.t 36) (.seq (.reg r8 [4, 5]) (.ret)) (.seq (.reg r9 [7, 9, 38]) (.cond (.t 38) (.seq (.reg r10 [4, 5]) (.ret)) (.skip)))))))) (.seq (.reg r11 [4, 5]) (.ret))))))
def fn : AFun := ⟨[.val, .val], 43, [.tmp 4, .tmp 5], [], body⟩
end tens_Cmp
namespace strings_Compare
def r0 : List AO := [⟨some 4, .asg (.v (.int .i64 0)), none⟩]
def r1 : List AO := [⟨some 5, .mv (.t 0), none⟩,
  ⟨some 6, .mv (.t 1), none⟩,
  ⟨some 7, .call .deep (.v (.clo F.internal_bytealg_CompareString [] [])) [.t 5, .t 6], none⟩,
  ⟨some 4, .asg (.t 7), none⟩]
def body : AC := .seq (.reg r0 [0, 1]) (.seq (.reg r1 [4]) (.ret))
def fn : AFun := ⟨[.val, .val], 8, [.tmp 4], [], body⟩
end strings_Compare
namespace slices_CompareFunc_LValue_LValue_Value_Value
def r0 : List AO := [⟨some 6, .asg (.v (.int .i64 0)), none⟩]
def r1 : List AO := [⟨some 11, .mv (.t 0), none⟩,
  ⟨some 12, .len false (.t 11), none⟩,
  ⟨some 13, .mv (.v (.int .i64 0)), none⟩]
def r2 : List AO := [⟨some 14, .bin .lss (.t 13) (.t 12), none⟩]
def r3 : List AO := [⟨some 15, .mv (.t 13), none⟩,
  ⟨some 16, .iadr 5 (.t 11) (.t 13), none⟩,
  ⟨some 17, .load 5 true (.t 16), none⟩,
  ⟨some 8, .alloc [.av (.int .i64 0), .av (.str []), .av (.str []), .own 5 [], .own 1 []], none⟩,
  ⟨some 7, .asg (.t 15), none⟩,
  ⟨none, .store 5 (.t 8) (.t 17), none⟩]
def r4 : List AO := [⟨some 18, .mv (.t 7), none⟩,
  ⟨some 19, .mv (.t 1), none⟩,
  ⟨some 20, .len false (.t 19), none⟩,
  ⟨some 21, .bin .geq (.t 18) (.t 20), none⟩]
def r5 : List AO := [⟨some 6, .asg (.v (.int .i64 1)), none⟩]
def r6 : List AO := [⟨some 22, .mv (.t 1), none⟩,
  ⟨some 23, .mv (.t 7), none⟩,
  ⟨some 24, .iadr 5 (.t 22) (.t 23), none⟩,
  ⟨some 25, .load 5 true (.t 24), none⟩,
  ⟨some 9, .alloc [.av (.int .i64 0), .av (.str []), .av (.str []), .own 5 [], .own 1 []], none⟩,
  ⟨none, .store 5 (.t 9) (.t 25), none⟩]
def r7 : List AO := [⟨some 26, .mv (.t 2), none⟩,
  ⟨some 27, .take 5 true (.t 8), none⟩,
  ⟨some 28, .take 5 true (.t 9), none⟩,
  ⟨some 29, .call .deep (.t 26) [.t 27, .t 28], none⟩,
  ⟨some 10, .asg (.t 29), none⟩]
def r8 : List AO := [⟨some 30, .mv (.t 10), none⟩,
  ⟨some 31, .bin .neq (.t 30) (.v (.int .i64 0)), none⟩]
def r9 : List AO := [⟨some 32, .mv (.t 10), none⟩,
  ⟨some 6, .asg (.t 32), none⟩]
def r10 : List AO := [⟨some 33, .bin .add (.t 13) (.v (.int .i64 1)), none⟩,
  ⟨some 13, .mv (.t 33), none⟩]
def l1 : AC := .seq (.reg r2 [0, 1, 2, 11, 12, 13, 14]) (.seq (.cond (.t 14) (.skip) (.exit 0)) (.seq (.block 1 (.seq (.reg r3 [0, 1, 2, 7, 8, 11, 12, 13]) (.seq (.seq (.reg r4 [0, 1, 2, 7, 8, 11, 12, 13, 21]) (.cond (.t 21) (.seq (.reg r5 [6]) (.ret)) (.skip))) (.seq (.reg r6 [0, 1, 2, 8, 9, 11, 12, 13]) (.seq (.reg r7 [0, 1, 2, 10, 11, 12, 13]) (.seq (.reg r8 [0, 1, 2, 10, 11, 12, 13, 31]) (.cond (.t 31) (.seq (.reg r9 [6]) (.ret)) (.skip)))))))) (.reg r10 [0, 1, 2, 11, 12, 13])))
def r11 : List AO := [⟨some 34, .mv (.t 0), none⟩,
  ⟨some 35, .len false (.t 34), none⟩,
  ⟨some 36, .mv (.t 1), none⟩,
  ⟨some 37, .len false (.t 36), none⟩,
  ⟨some 38, .bin .lss (.t 35) (.t 37), none⟩]
def r12 : List AO := [⟨some 6, .asg (.v (.int .i64 (-1))), none⟩]
def r13 : List AO := [⟨some 6, .asg (.v (.int .i64 0)), none⟩]
def body : AC := .seq (.reg r0 [0, 1, 2]) (.seq (.seq (.reg r1 [0, 1, 2, 11, 12, 13]) (.block 0 (.loop [0, 1, 2, 11, 12, 13] l1))) (.seq (.seq (.reg r11 [38]) (.cond (.t 38) (.seq (.reg r12 [6]) (.ret)) (.skip))) (.seq (.reg r13 [6]) (.ret))))
def fn : AFun := ⟨[.val, .val, .val], 39, [.tmp 6], [], body⟩
end slices_CompareFunc_LValue_LValue_Value_Value
namespace slices_Compare_Lstring_string
def r0 : List AO := [⟨some 4, .asg (.v (.int .i64 0)), none⟩]
def r1 : List AO := [⟨some 9, .mv (.t 0), none⟩,
  ⟨some 10, .len false (.t 9), none⟩,
  ⟨some 11, .mv (.v (.int .i64 0)), none⟩]
def r2 : List AO := [⟨some 12, .bin .lss (.t 11) (.t 10), none⟩]
def r3 : List AO := [⟨some 13, .mv (.t 11), none⟩,
  ⟨some 14, .iadr 1 (.t 9) (.t 11), none⟩,
  ⟨some 15, .load 1 false (.t 14), none⟩,
  ⟨some 5, .asg (.t 13), none⟩,
  ⟨some 6, .asg (.t 15), none⟩]
def r4 : List AO := [⟨some 16, .mv (.t 5), none⟩,
  ⟨some 17, .mv (.t 1), none⟩,
  ⟨some 18, .len false (.t 17), none⟩,
  ⟨some 19, .bin .geq (.t 16) (.t 18), none⟩]
def r5 : List AO := [⟨some 4, .asg (.v (.int .i64 1)), none⟩]
def r6 : List AO := [⟨some 20, .mv (.t 1), none⟩,
  ⟨some 21, .mv (.t 5), none⟩,
  ⟨some 22, .iadr 1 (.t 20) (.t 21), none⟩,
  ⟨some 23, .load 1 false (.t 22), none⟩,
  ⟨some 7, .asg (.t 23), none⟩]
def r7 : List AO := [⟨some 24, .mv (.t 6), none⟩,
  ⟨some 25, .mv (.t 7), none⟩,
  ⟨some 26, .call .deep (.v (.clo F.cmp_Compare_string [] [])) [.t 24, .t 25], none⟩,
  ⟨some 8, .asg (.t 26), none⟩]
def r8 : List AO := [⟨some 27, .mv (.t 8), none⟩,
  ⟨some 28, .bin .neq (.t 27) (.v (.int .i64 0)), none⟩]
def r9 : List AO := [⟨some 29, .mv (.t 8), none⟩,
  ⟨some 4, .asg (.t 29), none⟩]
def r10 : List AO := [⟨some 30, .bin .add (.t 11) (.v (.int .i64 1)), none⟩,
  ⟨some 11, .mv (.t 30), none⟩]
def l1 : AC := .seq (.reg r2 [0, 1, 9, 10, 11, 12]) (.seq (.cond (.t 12) (.skip) (.exit 0)) (.seq (.block 1 (.seq (.reg r3 [0, 1, 5, 6, 9, 10, 11]) (.seq (.seq (.reg r4 [0, 1, 5, 6, 9, 10, 11, 19]) (.cond (.t 19) (.seq (.reg r5 [4]) (.ret)) (.skip))) (.seq (.reg r6 [0, 1, 6, 7, 9, 10, 11]) (.seq (.reg r7 [0, 1, 8, 9, 10, 11]) (.seq (.reg r8 [0, 1, 8, 9, 10, 11, 28]) (.cond (.t 28) (.seq (.reg r9 [4]) (.ret)) (.skip)))))))) (.reg r10 [0, 1, 9, 10, 11])))
def r11 : List AO := [⟨some 31, .mv (.t 0), none⟩,
  ⟨some 32, .len false (.t 31), none⟩,
  ⟨some 33, .mv (.t 1), none⟩,
  ⟨some 34, .len false (.t 33), none⟩,
  ⟨some 35, .bin .lss (.t 32) (.t 34), none⟩]
def r12 : List AO := [⟨some 4, .asg (.v (.int .i64 (-1))), none⟩]
def r13 : List AO := [⟨some 4, .asg (.v (.int .i64 0)), none⟩]
def body : AC := .seq (.reg r0 [0, 1]) (.seq (.seq (.reg r1 [0, 1, 9, 10, 11]) (.block 0 (.loop [0, 1, 9, 10, 11] l1))) (.seq (.seq (.reg r11 [35]) (.cond (.t 35) (.seq (.reg r12 [4]) (.ret)) (.skip))) (.seq (.reg r13 [4]) (.ret))))
def fn : AFun := ⟨[.val, .val], 36, [.tmp 4], [], body⟩
end slices_Compare_Lstring_string
namespace cmp_Or_int
def r0 : List AO := [⟨some 2, .asg (.v (.int .i64 0)), none⟩]
def r1 : List AO := [⟨some 3, .asg (.v (.int .i64 0)), none⟩]
def r2 : List AO := [⟨some 6, .mv (.t 0), none⟩,
  ⟨some 7, .len false (.t 6), none⟩,
  ⟨some 8, .mv (.v (.int .i64 0)), none⟩]
def r3 : List AO := [⟨some 9, .bin .lss (.t 8) (.t 7), none⟩]
def r4 : List AO := [⟨some 10, .iadr 1 (.t 6) (.t 8), none⟩,
  ⟨some 11, .load 1 false (.t 10), none⟩,
  ⟨some 5, .asg (.t 11), none⟩]
def r5 : List AO := [⟨some 12, .mv (.t 5), none⟩,
  ⟨some 13, .mv (.t 3), none⟩,
  ⟨some 14, .bin .neq (.t 12) (.t 13), none⟩]
def r6 : List AO := [⟨some 15, .mv (.t 5), none⟩,
  ⟨some 2, .asg (.t 15), none⟩]
def r7 : List AO := [⟨some 16, .bin .add (.t 8) (.v (.int .i64 1)), none⟩,
  ⟨some 8, .mv (.t 16), none⟩]
def l1 : AC := .seq (.reg r3 [3, 6, 7, 8, 9]) (.seq (.cond (.t 9) (.skip) (.exit 0)) (.seq (.block 1 (.seq (.reg r4 [3, 5, 6, 7, 8]) (.seq (.reg r5 [3, 5, 6, 7, 8, 14]) (.cond (.t 14) (.seq (.reg r6 [2]) (.ret)) (.skip))))) (.reg r7 [3, 6, 7, 8])))
def r8 : List AO := [⟨some 17, .mv (.t 3), none⟩,
  ⟨some 2, .asg (.t 17), none⟩]
def body : AC := .seq (.reg r0 [0]) (.seq (.reg r1 [0, 3]) (.seq (.seq (.reg r2 [3, 6, 7, 8]) (.block 0 (.loop [3, 6, 7, 8] l1))) (.seq (.reg r8 [2]) (.ret))))
def fn : AFun := ⟨[.val], 18, [.tmp 2], [], body⟩
end cmp_Or_int
namespace cmp_isNaN_int
def r0 : List AO := [⟨some 2, .asg (.v (.bool false)), none⟩]
def r1 : List AO := [⟨some 3, .mv (.t 0), none⟩,
  ⟨some 4, .mv (.t 0), none⟩,
  ⟨some 5, .bin .neq (.t 3) (.t 4), none⟩,
  ⟨some 2, .asg (.t 5), none⟩]
def body : AC := .seq (.reg r0 [0]) (.seq (.reg r1 [2]) (.ret))
def fn : AFun := ⟨[.val], 6, [.tmp 2], [], body⟩
end cmp_isNaN_int
namespace hallmarkref03_trail
def r0 : List AO := [⟨some 10, .asg (.v (.bool false)), none⟩]
def r1 : List AO := [⟨some 12, .mv (.t 1), none⟩,
  ⟨some 13, .mv (.t 2), none⟩,
  ⟨some 14, .bin .add (.t 12) (.t 13), none⟩,
  ⟨some 15, .mv (.t 0), none⟩,
  ⟨some 16, .len true (.t 15), none⟩,
  ⟨some 17, .bin .gtr (.t 14) (.t 16), none⟩]
def r2 : List AO := [⟨some 10, .asg (.v (.bool false)), none⟩]
def r3 : List AO := [⟨some 11, .asg (.v (.int .i64 0)), none⟩]
def r4 : List AO := [⟨some 18, .mv (.t 11), none⟩,
  ⟨some 19, .mv (.t 2), none⟩,
  ⟨some 20, .bin .lss (.t 18) (.t 19), none⟩]
def r6 : List AO := [⟨some 23, .mv (.t 0), none⟩,
  ⟨some 24, .mv (.t 1), none⟩,
  ⟨some 25, .mv (.t 11), none⟩,
  ⟨some 26, .bin .add (.t 24) (.t 25), none⟩,
  ⟨some 27, .idxS (.t 23) (.t 26), none⟩,
  ⟨some 28, .bin .lss (.t 27) (.v (.int .u8 128)), none⟩,
  ⟨some 29, .mv (.t 28), none⟩,
  ⟨some 30, .mv (.t 0), some (29, false)⟩,
  ⟨some 31, .mv (.t 1), some (29, false)⟩,
  ⟨some 32, .mv (.t 11), some (29, false)⟩,
  ⟨some 33, .bin .add (.t 31) (.t 32), some (29, false)⟩,
  ⟨some 34, .idxS (.t 30) (.t 33), some (29, false)⟩,
  ⟨some 35, .bin .gtr (.t 34) (.v (.int .u8 191)), some (29, false)⟩,
  ⟨some 36, .pick (.t 29) (.v (.bool true)) (.t 35), none⟩]
def r7 : List AO := [⟨some 10, .asg (.v (.bool false)), none⟩]
def r5 : List AO := [⟨some 21, .mv (.t 11), none⟩,
  ⟨some 22, .bin .add (.t 21) (.v (.int .i64 1)), none⟩,
  ⟨some 11, .asg (.t 22), none⟩]
def l1 : AC := .seq (.seq (.reg r4 [0, 1, 2, 3, 4, 11, 20]) (.cond (.t 20) (.skip) (.exit 0))) (.seq (.block 1 (.seq (.reg r6 [0, 1, 2, 3, 4, 11, 36]) (.cond (.t 36) (.seq (.reg r7 [10]) (.ret)) (.skip)))) (.reg r5 [0, 1, 2, 3, 4, 11]))
def r8 : List AO := [⟨some 37, .mv (.t 0), none⟩,
  ⟨some 38, .mv (.t 1), none⟩,
  ⟨some 39, .idxS (.t 37) (.t 38), none⟩,
  ⟨some 40, .mv (.t 3), none⟩,
  ⟨some 41, .bin .geq (.t 39) (.t 40), none⟩,
  ⟨some 42, .mv (.t 41), none⟩,
  ⟨some 43, .mv (.t 0), some (42, true)⟩,
  ⟨some 44, .mv (.t 1), some (42, true)⟩,
  ⟨some 45, .idxS (.t 43) (.t 44), some (42, true)⟩,
  ⟨some 46, .mv (.t 4), some (42, true)⟩,
  ⟨some 47, .bin .leq (.t 45) (.t 46), some (42, true)⟩,
  ⟨some 48, .pick (.t 42) (.t 47) (.v (.bool false)), none⟩,
  ⟨some 10, .asg (.t 48), none⟩]
def body : AC := .seq (.reg r0 [0, 1, 2, 3, 4]) (.seq (.seq (.reg r1 [0, 1, 2, 3, 4, 17]) (.cond (.t 17) (.seq (.reg r2 [10]) (.ret)) (.skip))) (.seq (.seq (.reg r3 [0, 1, 2, 3, 4, 11]) (.block 0 (.loop [0, 1, 2, 3, 4, 11] l1))) (.seq (.reg r8 [10]) (.ret))))
def fn : AFun := ⟨[.val, .val, .val, .val, .val], 49, [.tmp 10], [], body⟩
end hallmarkref03_trail
namespace tens_Formed
def r0 : List AO := [⟨some 2, .asg (.v (.bool false)), none⟩]
def r1 : List AO := [⟨some 4, .mv (.t 0), none⟩,
  ⟨some 5, .bin .eql (.t 4) (.v (.str [48])), none⟩]
def r2 : List AO := [⟨some 2, .asg (.v (.bool true)), none⟩]
def r3 : List AO := [⟨some 6, .mv (.t 0), none⟩,
  ⟨some 7, .bin .neq (.t 6) (.v (.str [])), none⟩,
  ⟨some 8, .mv (.t 7), none⟩,
  ⟨some 9, .mv (.t 0), some (8, true)⟩,
  ⟨some 10, .idxS (.t 9) (.v (.int .i64 0)), some (8, true)⟩,
  ⟨some 11, .bin .eql (.t 10) (.v (.int .u8 45)), some (8, true)⟩,
  ⟨some 12, .pick (.t 8) (.t 11) (.v (.bool false)), none⟩]
def r4 : List AO := [⟨some 13, .mv (.t 0), none⟩,
  ⟨some 14, .slc true 1 (.t 13) (some (.v (.int .i64 1))) none, none⟩,
  ⟨some 0, .asg (.t 14), none⟩]
def r5 : List AO := [⟨some 15, .mv (.t 0), none⟩,
  ⟨some 16, .bin .eql (.t 15) (.v (.str [])), none⟩,
  ⟨some 17, .mv (.t 16), none⟩,
  ⟨some 18, .mv (.t 0), some (17, false)⟩,
  ⟨some 19, .idxS (.t 18) (.v (.int .i64 0)), some (17, false)⟩,
  ⟨some 20, .bin .eql (.t 19) (.v (.int .u8 48)), some (17, false)⟩,
  ⟨some 21, .pick (.t 17) (.v (.bool true)) (.t 20), none⟩]
def r6 : List AO := [⟨some 2, .asg (.v (.bool false)), none⟩]
def r7 : List AO := [⟨some 22, .mv (.t 0), none⟩,
  ⟨some 23, .len true (.t 22), none⟩,
  ⟨some 24, .mv (.v (.int .i64 0)), none⟩]
def r8 : List AO := [⟨some 25, .bin .lss (.t 24) (.t 23), none⟩]
def r9 : List AO := [⟨some 26, .mv (.t 24), none⟩,
  ⟨some 3, .asg (.t 26), none⟩]
def r10 : List AO := [⟨some 27, .mv (.t 0), none⟩,
  ⟨some 28, .mv (.t 3), none⟩,
  ⟨some 29, .idxS (.t 27) (.t 28), none⟩,
  ⟨some 30, .bin .lss (.t 29) (.v (.int .u8 48)), none⟩,
  ⟨some 31, .mv (.t 30), none⟩,
  ⟨some 32, .mv (.t 0), some (31, false)⟩,
  ⟨some 33, .mv (.t 3), some (31, false)⟩,
  ⟨some 34, .idxS (.t 32) (.t 33), some (31, false)⟩,
  ⟨some 35, .bin .gtr (.t 34) (.v (.int .u8 57)), some (31, false)⟩,
  ⟨some 36, .pick (.t 31) (.v (.bool true)) (.t 35), none⟩]
def r11 : List AO := [⟨some 2, .asg (.v (.bool false)), none⟩]
def r12 : List AO := [⟨some 37, .bin .add (.t 24) (.v (.int .i64 1)), none⟩,
  ⟨some 24, .mv (.t 37), none⟩]
def l1 : AC := .seq (.reg r8 [0, 23, 24, 25]) (.seq (.cond (.t 25) (.skip) (.exit 0)) (.seq (.block 1 (.seq (.reg r9 [0, 3, 23, 24]) (.seq (.reg r10 [0, 23, 24, 36]) (.cond (.t 36) (.seq (.reg r11 [2]) (.ret)) (.skip))))) (.reg r12 [0, 23, 24])))
def r13 : List AO := [⟨some 2, .asg (.v (.bool true)), none⟩]
def body : AC := .seq (.reg r0 [0]) (.seq (.seq (.reg r1 [0, 5]) (.cond (.t 5) (.seq (.reg r2 [2]) (.ret)) (.skip))) (.seq (.seq (.reg r3 [0, 12]) (.cond (.t 12) (.reg r4 [0]) (.skip))) (.seq (.seq (.reg r5 [0, 21]) (.cond (.t 21) (.seq (.reg r6 [2]) (.ret)) (.skip))) (.seq (.seq (.reg r7 [0, 23, 24]) (.block 0 (.loop [0, 23, 24] l1))) (.seq (.reg r13 [2]) (.ret))))))
def fn : AFun := ⟨[.val], 38, [.tmp 2], [], body⟩
end tens_Formed
namespace tens_split
def r0 : List AO := [⟨some 2, .asg (.v (.bool false)), none⟩,
  ⟨some 3, .asg (.v (.str [])), none⟩]
def r1 : List AO := [⟨some 4, .mv (.t 0), none⟩,
  ⟨some 5, .idxS (.t 4) (.v (.int .i64 0)), none⟩,
  ⟨some 6, .bin .eql (.t 5) (.v (.int .u8 45)), none⟩]
def r2 : List Ph := [.bag false [] [0] [(0, ⟨some 7, .mv (.t 0), none⟩),
    (1, ⟨some 8, .slc true 1 (.t 7) (some (.v (.int .i64 1))) none, none⟩),
    (2, ⟨some 2, .asg (.v (.bool true)), none⟩),
    (3, ⟨some 3, .asg (.t 8), none⟩)]]
def r3 : List AO := [⟨some 9, .mv (.t 0), none⟩,
  ⟨some 2, .asg (.v (.bool false)), none⟩,
  ⟨some 3, .asg (.t 9), none⟩]
def body : AC := .seq (.reg r0 [0]) (.seq (.seq (.reg r1 [0, 6]) (.cond (.t 6) (.seq (.dreg r2 [2, 3]) (.ret)) (.skip))) (.seq (.reg r3 [2, 3]) (.ret)))
def fn : AFun := ⟨[.val], 10, [.tmp 2, .tmp 3], [], body⟩
end tens_split
namespace tens_size
def r0 : List AO := [⟨some 4, .asg (.v (.int .i64 0)), none⟩]
def r1 : List AO := [⟨some 6, .mv (.t 0), none⟩,
  ⟨some 7, .len true (.t 6), none⟩,
  ⟨some 8, .mv (.t 1), none⟩,
  ⟨some 9, .len true (.t 8), none⟩,
  ⟨some 10, .bin .neq (.t 7) (.t 9), none⟩,
  ⟨some 5, .asg (.t 10), none⟩]
def r2 : List AO := [⟨some 11, .mv (.t 0), none⟩,
  ⟨some 12, .len true (.t 11), none⟩,
  ⟨some 13, .mv (.t 1), none⟩,
  ⟨some 14, .len true (.t 13), none⟩,
  ⟨some 15, .bin .sub (.t 12) (.t 14), none⟩,
  ⟨some 16, .mm true [.t 15, .v (.int .i64 (-1))], none⟩,
  ⟨some 17, .mm false [.t 16, .v (.int .i64 1)], none⟩,
  ⟨some 4, .asg (.t 17), none⟩]
def r3 : List AO := [⟨some 19, .mv (.t 0), none⟩,
  ⟨some 20, .mv (.t 1), none⟩,
  ⟨some 21, .bin .lss (.t 19) (.t 20), none⟩,
  ⟨some 18, .asg (.t 21), none⟩]
def r4 : List AO := [⟨some 4, .asg (.v (.int .i64 (-1))), none⟩]
def r5 : List AO := [⟨some 23, .mv (.t 0), none⟩,
  ⟨some 24, .mv (.t 1), none⟩,
  ⟨some 25, .bin .gtr (.t 23) (.t 24), none⟩,
  ⟨some 22, .asg (.t 25), none⟩]
def r6 : List AO := [⟨some 4, .asg (.v (.int .i64 1)), none⟩]
def r7 : List AO := [⟨some 4, .asg (.v (.int .i64 0)), none⟩]
def body : AC := .seq (.reg r0 [0, 1]) (.seq (.block 0 (.seq (.reg r1 [0, 1, 5]) (.cond (.t 5) (.seq (.reg r2 [4]) (.ret)) (.seq (.reg r3 [0, 1, 18]) (.cond (.t 18) (.seq (.reg r4 [4]) (.ret)) (.seq (.reg r5 [22]) (.cond (.t 22) (.seq (.reg r6 [4]) (.ret)) (.skip)))))))) (.seq (.reg r7 [4]) (.ret)))
def fn : AFun := ⟨[.val, .val], 26, [.tmp 4], [], body⟩
end tens_size
namespace cmp_Compare_string
def r0 : List AO := [⟨some 4, .asg (.v (.int .i64 0)), none⟩]
def r1 : List AO := [⟨some 7, .mv (.t 0), none⟩,
  ⟨some 8, .call .deep (.v (.clo F.cmp_isNaN_string [] [])) [.t 7], none⟩,
  ⟨some 5, .asg (.t 8), none⟩]
def r2 : List AO := [⟨some 9, .mv (.t 1), none⟩,
  ⟨some 10, .call .deep (.v (.clo F.cmp_isNaN_string [] [])) [.t 9], none⟩,
  ⟨some 6, .asg (.t 10), none⟩]
def r3 : List AO := [⟨some 11, .mv (.t 5), none⟩]
def r4 : List AO := [⟨some 12, .mv (.t 6), none⟩]
def r5 : List AO := [⟨some 4, .asg (.v (.int .i64 0)), none⟩]
def r6 : List AO := [⟨some 4, .asg (.v (.int .i64 (-1))), none⟩]
def r7 : List AO := [⟨some 13, .mv (.t 6), none⟩]
def r8 : List AO := [⟨some 4, .asg (.v (.int .i64 1)), none⟩]
def r9 : List AO := [⟨some 14, .mv (.t 0), none⟩,
  ⟨some 15, .mv (.t 1), none⟩,
  ⟨some 16, .bin .lss (.t 14) (.t 15), none⟩]
def r10 : List AO := [⟨some 4, .asg (.v (.int .i64 (-1))), none⟩]
def r11 : List AO := [⟨some 17, .mv (.t 0), none⟩,
  ⟨some 18, .mv (.t 1), none⟩,
  ⟨some 19, .bin .gtr (.t 17) (.t 18), none⟩]
def r12 : List AO := [⟨some 4, .asg (.v (.int .i64 1)), none⟩]
def r13 : List AO := [⟨some 4, .asg (.v (.int .i64 0)), none⟩]
def body : AC := .seq (.reg r0 [0, 1]) (.seq (.reg r1 [0, 1, 5]) (.seq (.reg r2 [0, 1, 5, 6]) (.seq (.seq (.reg r3 [0, 1, 6, 11]) (.cond (.t 11) (.seq (.seq (.reg r4 [12]) (.cond (.t 12) (.seq (.reg r5 [4]) (.ret)) (.skip))) (.seq (.reg r6 [4]) (.ret))) (.skip))) (.seq (.seq (.reg r7 [0, 1, 13]) (.cond (.t 13) (.seq (.reg r8 [4]) (.ret)) (.skip))) (.seq (.seq (.reg r9 [0, 1, 16]) (.cond (.t 16) (.seq (.reg r10 [4]) (.ret)) (.skip))) (.seq (.seq (.reg r11 [19]) (.cond (.t 19) (.seq (.reg r12 [4]) (.ret)) (.skip))) (.seq (.reg r13 [4]) (.ret))))))))
def fn : AFun := ⟨[.val, .val], 20, [.tmp 4], [], body⟩
end cmp_Compare_string
namespace cmp_isNaN_string
def r0 : List AO := [⟨some 2, .asg (.v (.bool false)), none⟩]
def r1 : List AO := [⟨some 3, .mv (.t 0), none⟩,
  ⟨some 4, .mv (.t 0), none⟩,
  ⟨some 5, .bin .neq (.t 3) (.t 4), none⟩,
  ⟨some 2, .asg (.t 5), none⟩]
def body : AC := .seq (.reg r0 [0]) (.seq (.reg r1 [2]) (.ret))
def fn : AFun := ⟨[.val], 6, [.tmp 2], [], body⟩
end cmp_isNaN_string
end Hm
