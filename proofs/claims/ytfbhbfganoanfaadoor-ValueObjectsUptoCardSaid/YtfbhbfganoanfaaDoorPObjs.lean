/- The cleaned code of the functions that the law reaches, printed by program. Conditions: none (definitions). -/
import Derived.Test.YtfbhbfganoanfaaDoorHA
set_option maxRecDepth 100000
namespace Hm
namespace F
abbrev hallmarklaw03_small : Nat := 6
abbrev hallmarkref03_Formed : Nat := 7
abbrev hallmarkref03_Like : Nat := 14
abbrev hallmarkref03_Parts : Nat := 16
abbrev hallmarkref03_Number : Nat := 17
abbrev hallmarkref03_UTF : Nat := 18
abbrev hallmarkref03_Rise : Nat := 19
abbrev hallmarkref03_All : Nat := 20
abbrev value_Twin : Nat := 22
abbrev hallmarkref03_width : Nat := 42
abbrev hallmarkref03_texts : Nat := 45
abbrev hallmarkref03_trail : Nat := 53
abbrev tens_Formed : Nat := 54
abbrev cmp_isNaN_string : Nat := 60
abbrev hallmarklaw03_lives : Nat := 62
abbrev value_Formed : Nat := 63
abbrev value_Merge : Nat := 65
abbrev value_Make : Nat := 66
abbrev value_With : Nat := 68
abbrev value_Get : Nat := 69
abbrev value_Without : Nat := 70
abbrev hallmarklaw03_ValueObjects : Nat := 71
abbrev hallmarklaw03_fits : Nat := 72
abbrev hallmarklaw03_right : Nat := 73
abbrev hallmarklaw03_asked : Nat := 76
abbrev hallmarklaw03_does : Nat := 77
abbrev value_empty : Nat := 83
abbrev utf_Valid : Nat := 84
abbrev value_allFormed : Nat := 85
abbrev value_rise : Nat := 86
abbrev value_isObject : Nat := 87
abbrev value_put : Nat := 88
abbrev slices_ContainsFunc_Lstring_string : Nat := 89
abbrev value_Make_S1 : Nat := 90
abbrev slices_Index_Lstring_string : Nat := 91
abbrev slices_BinarySearch_Lstring_string : Nat := 92
abbrev hallmarklaw03_smallAll : Nat := 95
abbrev hallmarkref03_Make : Nat := 96
abbrev hallmarkref03_Get : Nat := 97
abbrev hallmarkref03_With : Nat := 98
abbrev hallmarkref03_Without : Nat := 99
abbrev hallmarkref03_Merge : Nat := 100
abbrev hallmarkref03_Deep : Nat := 101
abbrev hallmarkref03_Twin : Nat := 102
abbrev value_Deep : Nat := 103
abbrev unicode_utf8_ValidString : Nat := 111
abbrev slices_ContainsFunc_LValue_Value : Nat := 112
abbrev value_allFormed_S1 : Nat := 113
abbrev slices_IndexFunc_Lstring_string : Nat := 116
abbrev cmp_Less_string : Nat := 117
abbrev slices_isNaN_string : Nat := 118
abbrev hallmarkref03_gather : Nat := 119
abbrev hallmarkref03_object : Nat := 120
abbrev hallmarkref03_Twins : Nat := 121
abbrev value_deep : Nat := 122
abbrev slices_IndexFunc_LValue_Value : Nat := 124
abbrev hallmarkref03_next : Nat := 125
abbrev hallmarkref03_last : Nat := 126
abbrev unicode_utf8_word_string : Nat := 127
abbrev slices_Clone_Lstring_string : Nat := 43
abbrev slices_Clone_LValue_Value : Nat := 44
abbrev slices_Delete_Lstring_string : Nat := 93
abbrev slices_Delete_LValue_Value : Nat := 94
abbrev slices_Insert_Lstring_string : Nat := 114
abbrev slices_Insert_LValue_Value : Nat := 115
end F
namespace hallmarklaw03_small
def r0 : List AO := [⟨some 1, .box (.t 0),none⟩,⟨some 2, .asg (.v (.bool false)),none⟩]
def r1 : List AO := [⟨some 3, .take 5 true (.t 1),none⟩,⟨some 4, .call .deep (.v (.clo F.hallmarkref03_Parts [] [])) [.t 3, .v (.int .i64 10000)],none⟩,⟨some 5, .bin .leq (.t 4) (.v (.int .i64 10000)),none⟩,⟨some 2, .asg (.t 5),none⟩]
def body : AC := .seq (.reg r0 [1]) (.seq (.reg r1 [2]) (.ret))
def fn : AFun := ⟨[.val], 6, [.tmp 2], [], body⟩
end hallmarklaw03_small
namespace hallmarkref03_Formed
def r0 : List AO := [⟨some 1, .box (.t 0),none⟩,⟨some 2, .asg (.v (.bool false)),none⟩]
def r1 : List AO := [⟨some 3, .fadr 0 (.t 1),none⟩,⟨some 4, .load 1 false (.t 3),none⟩,⟨some 5, .bin .lss (.t 4) (.v (.int .i64 0)),none⟩,⟨some 6, .mv (.t 5),none⟩,⟨some 7, .fadr 0 (.t 1), some (6, false)⟩,⟨some 8, .load 1 false (.t 7), some (6, false)⟩,⟨some 9, .bin .gtr (.t 8) (.v (.int .i64 6)), some (6, false)⟩,⟨some 10, .pick (.t 6) (.v (.bool true)) (.t 9),none⟩]
def r2 : List AO := [⟨some 2, .asg (.v (.bool false)),none⟩]
def r3 : List AO := [⟨some 11, .fadr 0 (.t 1),none⟩,⟨some 12, .load 1 false (.t 11),none⟩,⟨some 13, .bin .eql (.t 12) (.v (.int .i64 3)),none⟩,⟨some 14, .mv (.t 13),none⟩,⟨some 15, .fadr 1 (.t 1), some (14, true)⟩,⟨some 16, .load 1 false (.t 15), some (14, true)⟩,⟨some 17, .call .deep (.v (.clo F.hallmarkref03_Number [] [])) [.t 16], some (14, true)⟩,⟨some 18, .un .not (.t 17), some (14, true)⟩,⟨some 19, .pick (.t 14) (.t 18) (.v (.bool false)),none⟩,⟨some 20, .mv (.t 19),none⟩,⟨some 21, .fadr 0 (.t 1), some (20, false)⟩,⟨some 22, .load 1 false (.t 21), some (20, false)⟩,⟨some 23, .bin .neq (.t 22) (.v (.int .i64 3)), some (20, false)⟩,⟨some 24, .mv (.t 23), some (20, false)⟩,⟨some 25, .fadr 1 (.t 1), some (24, true)⟩,⟨some 26, .load 1 false (.t 25), some (24, true)⟩,⟨some 27, .bin .neq (.t 26) (.v (.str [])), some (24, true)⟩,⟨some 28, .pick (.t 24) (.t 27) (.v (.bool false)), some (20, false)⟩,⟨some 29, .pick (.t 20) (.v (.bool true)) (.t 28),none⟩]
def r4 : List AO := [⟨some 2, .asg (.v (.bool false)),none⟩]
def r5 : List AO := [⟨some 30, .fadr 0 (.t 1),none⟩,⟨some 31, .load 1 false (.t 30),none⟩,⟨some 32, .bin .eql (.t 31) (.v (.int .i64 4)),none⟩,⟨some 33, .mv (.t 32),none⟩,⟨some 34, .fadr 2 (.t 1), some (33, true)⟩,⟨some 35, .load 1 false (.t 34), some (33, true)⟩,⟨some 36, .call .deep (.v (.clo F.hallmarkref03_UTF [] [])) [.t 35], some (33, true)⟩,⟨some 37, .un .not (.t 36), some (33, true)⟩,⟨some 38, .pick (.t 33) (.t 37) (.v (.bool false)),none⟩,⟨some 39, .mv (.t 38),none⟩,⟨some 40, .fadr 0 (.t 1), some (39, false)⟩,⟨some 41, .load 1 false (.t 40), some (39, false)⟩,⟨some 42, .bin .neq (.t 41) (.v (.int .i64 4)), some (39, false)⟩,⟨some 43, .mv (.t 42), some (39, false)⟩,⟨some 44, .fadr 2 (.t 1), some (43, true)⟩,⟨some 45, .load 1 false (.t 44), some (43, true)⟩,⟨some 46, .bin .neq (.t 45) (.v (.str [])), some (43, true)⟩,⟨some 47, .pick (.t 43) (.t 46) (.v (.bool false)), some (39, false)⟩,⟨some 48, .pick (.t 39) (.v (.bool true)) (.t 47),none⟩]
def r6 : List AO := [⟨some 2, .asg (.v (.bool false)),none⟩]
def r7 : List AO := [⟨some 49, .fadr 0 (.t 1),none⟩,⟨some 50, .load 1 false (.t 49),none⟩,⟨some 51, .bin .lss (.t 50) (.v (.int .i64 5)),none⟩,⟨some 52, .mv (.t 51),none⟩,⟨some 53, .fadr 3 (.t 1), some (52, true)⟩,⟨some 54, .load 1 false (.t 53), some (52, true)⟩,⟨some 55, .len false (.t 54), some (52, true)⟩,⟨some 56, .bin .gtr (.t 55) (.v (.int .i64 0)), some (52, true)⟩,⟨some 57, .pick (.t 52) (.t 56) (.v (.bool false)),none⟩,⟨some 58, .mv (.t 57),none⟩,⟨some 59, .fadr 0 (.t 1), some (58, false)⟩,⟨some 60, .load 1 false (.t 59), some (58, false)⟩,⟨some 61, .bin .lss (.t 60) (.v (.int .i64 6)), some (58, false)⟩,⟨some 62, .mv (.t 61), some (58, false)⟩,⟨some 63, .fadr 4 (.t 1), some (62, true)⟩,⟨some 64, .load 1 false (.t 63), some (62, true)⟩,⟨some 65, .len false (.t 64), some (62, true)⟩,⟨some 66, .bin .gtr (.t 65) (.v (.int .i64 0)), some (62, true)⟩,⟨some 67, .pick (.t 62) (.t 66) (.v (.bool false)), some (58, false)⟩,⟨some 68, .pick (.t 58) (.v (.bool true)) (.t 67),none⟩]
def r8 : List AO := [⟨some 2, .asg (.v (.bool false)),none⟩]
def r9 : List AO := [⟨some 69, .fadr 0 (.t 1),none⟩,⟨some 70, .load 1 false (.t 69),none⟩,⟨some 71, .bin .eql (.t 70) (.v (.int .i64 6)),none⟩,⟨some 72, .mv (.t 71),none⟩,⟨some 73, .fadr 4 (.t 1), some (72, true)⟩,⟨some 74, .load 1 false (.t 73), some (72, true)⟩,⟨some 75, .len false (.t 74), some (72, true)⟩,⟨some 76, .fadr 3 (.t 1), some (72, true)⟩,⟨some 77, .load 1 false (.t 76), some (72, true)⟩,⟨some 78, .len false (.t 77), some (72, true)⟩,⟨some 79, .bin .neq (.t 75) (.t 78), some (72, true)⟩,⟨some 80, .mv (.t 79), some (72, true)⟩,⟨some 81, .fadr 4 (.t 1), some (80, false)⟩,⟨some 82, .load 1 false (.t 81), some (80, false)⟩,⟨some 83, .call .deep (.v (.clo F.hallmarkref03_Rise [] [])) [.t 82], some (80, false)⟩,⟨some 84, .un .not (.t 83), some (80, false)⟩,⟨some 85, .pick (.t 80) (.v (.bool true)) (.t 84), some (72, true)⟩,⟨some 86, .pick (.t 72) (.t 85) (.v (.bool false)),none⟩]
def r10 : List AO := [⟨some 2, .asg (.v (.bool false)),none⟩]
def r11 : List AO := [⟨some 87, .fadr 3 (.t 1),none⟩,⟨some 88, .take 1 false (.t 87),none⟩,⟨some 89, .call .deep (.v (.clo F.hallmarkref03_All [] [])) [.t 88],none⟩,⟨some 2, .asg (.t 89),none⟩]
def body : AC := .seq (.reg r0 [1]) (.seq (.seq (.reg r1 [1, 10]) (.cond (.t 10) (.seq (.reg r2 [2]) (.ret)) (.skip))) (.seq (.seq (.reg r3 [1, 29]) (.cond (.t 29) (.seq (.reg r4 [2]) (.ret)) (.skip))) (.seq (.seq (.reg r5 [1, 48]) (.cond (.t 48) (.seq (.reg r6 [2]) (.ret)) (.skip))) (.seq (.seq (.reg r7 [1, 68]) (.cond (.t 68) (.seq (.reg r8 [2]) (.ret)) (.skip))) (.seq (.seq (.reg r9 [1, 86]) (.cond (.t 86) (.seq (.reg r10 [2]) (.ret)) (.skip))) (.seq (.reg r11 [2]) (.ret)))))))
def fn : AFun := ⟨[.val], 90, [.tmp 2], [], body⟩
end hallmarkref03_Formed
namespace hallmarkref03_Like
def r0 : List AO := [⟨some 2, .box (.t 0),none⟩,⟨some 3, .box (.t 1),none⟩,⟨some 4, .asg (.v (.bool false)),none⟩]
def r1 : List AO := [⟨some 7, .fadr 0 (.t 2),none⟩,⟨some 8, .load 1 false (.t 7),none⟩,⟨some 9, .fadr 0 (.t 3),none⟩,⟨some 10, .load 1 false (.t 9),none⟩,⟨some 11, .bin .neq (.t 8) (.t 10),none⟩,⟨some 12, .mv (.t 11),none⟩,⟨some 13, .fadr 1 (.t 2), some (12, false)⟩,⟨some 14, .load 1 false (.t 13), some (12, false)⟩,⟨some 15, .fadr 1 (.t 3), some (12, false)⟩,⟨some 16, .load 1 false (.t 15), some (12, false)⟩,⟨some 17, .bin .neq (.t 14) (.t 16), some (12, false)⟩,⟨some 18, .pick (.t 12) (.v (.bool true)) (.t 17),none⟩,⟨some 19, .mv (.t 18),none⟩,⟨some 20, .fadr 2 (.t 2), some (19, false)⟩,⟨some 21, .load 1 false (.t 20), some (19, false)⟩,⟨some 22, .fadr 2 (.t 3), some (19, false)⟩,⟨some 23, .load 1 false (.t 22), some (19, false)⟩,⟨some 24, .bin .neq (.t 21) (.t 23), some (19, false)⟩,⟨some 25, .pick (.t 19) (.v (.bool true)) (.t 24),none⟩,⟨some 26, .mv (.t 25),none⟩,⟨some 27, .fadr 4 (.t 2), some (26, false)⟩,⟨some 28, .load 1 false (.t 27), some (26, false)⟩,⟨some 29, .len false (.t 28), some (26, false)⟩,⟨some 30, .fadr 4 (.t 3), some (26, false)⟩,⟨some 31, .load 1 false (.t 30), some (26, false)⟩,⟨some 32, .len false (.t 31), some (26, false)⟩,⟨some 33, .bin .neq (.t 29) (.t 32), some (26, false)⟩,⟨some 34, .pick (.t 26) (.v (.bool true)) (.t 33),none⟩,⟨some 35, .mv (.t 34),none⟩,⟨some 36, .fadr 3 (.t 2), some (35, false)⟩,⟨some 37, .load 1 false (.t 36), some (35, false)⟩,⟨some 38, .len false (.t 37), some (35, false)⟩,⟨some 39, .fadr 3 (.t 3), some (35, false)⟩,⟨some 40, .load 1 false (.t 39), some (35, false)⟩,⟨some 41, .len false (.t 40), some (35, false)⟩,⟨some 42, .bin .neq (.t 38) (.t 41), some (35, false)⟩,⟨some 43, .pick (.t 35) (.v (.bool true)) (.t 42),none⟩]
def r2 : List AO := [⟨some 4, .asg (.v (.bool false)),none⟩]
def r3 : List AO := [⟨some 5, .asg (.v (.int .i64 0)),none⟩]
def r4 : List AO := [⟨some 44, .mv (.t 5),none⟩,⟨some 45, .fadr 4 (.t 2),none⟩,⟨some 46, .load 1 false (.t 45),none⟩,⟨some 47, .len false (.t 46),none⟩,⟨some 48, .bin .lss (.t 44) (.t 47),none⟩]
def r6 : List Ph := [.bag false [] [] [(0, ⟨some 51, .fadr 4 (.t 2),none⟩),(1, ⟨some 52, .load 1 false (.t 51),none⟩),(2, ⟨some 53, .mv (.t 5),none⟩),(3, ⟨some 54, .iadr 1 (.t 52) (.t 53),none⟩),(4, ⟨some 55, .load 1 false (.t 54),none⟩),(5, ⟨some 56, .fadr 4 (.t 3),none⟩),(6, ⟨some 57, .load 1 false (.t 56),none⟩),(7, ⟨some 58, .mv (.t 5),none⟩),(8, ⟨some 59, .iadr 1 (.t 57) (.t 58),none⟩),(9, ⟨some 60, .load 1 false (.t 59),none⟩),(10, ⟨some 61, .bin .neq (.t 55) (.t 60),none⟩)]]
def r7 : List AO := [⟨some 4, .asg (.v (.bool false)),none⟩]
def r5 : List AO := [⟨some 49, .mv (.t 5),none⟩,⟨some 50, .bin .add (.t 49) (.v (.int .i64 1)),none⟩,⟨some 5, .asg (.t 50),none⟩]
def l1 : AC := .seq (.seq (.reg r4 [2, 3, 5, 48]) (.cond (.t 48) (.skip) (.exit 0))) (.seq (.block 1 (.seq (.dreg r6 [2, 3, 5, 61]) (.cond (.t 61) (.seq (.reg r7 [4]) (.ret)) (.skip)))) (.reg r5 [2, 3, 5]))
def r8 : List AO := [⟨some 6, .asg (.v (.int .i64 0)),none⟩]
def r9 : List AO := [⟨some 62, .mv (.t 6),none⟩,⟨some 63, .fadr 3 (.t 2),none⟩,⟨some 64, .load 1 false (.t 63),none⟩,⟨some 65, .len false (.t 64),none⟩,⟨some 66, .bin .lss (.t 62) (.t 65),none⟩]
def r11 : List Ph := [.bag false [] [73, 78] [(0, ⟨some 69, .fadr 3 (.t 2),none⟩),(1, ⟨some 70, .load 1 false (.t 69),none⟩),(2, ⟨some 71, .mv (.t 6),none⟩),(3, ⟨some 72, .iadr 5 (.t 70) (.t 71),none⟩),(4, ⟨some 73, .load 5 true (.t 72),none⟩),(5, ⟨some 74, .fadr 3 (.t 3),none⟩),(6, ⟨some 75, .load 1 false (.t 74),none⟩),(7, ⟨some 76, .mv (.t 6),none⟩),(8, ⟨some 77, .iadr 5 (.t 75) (.t 76),none⟩),(9, ⟨some 78, .load 5 true (.t 77),none⟩),(10, ⟨some 79, .call .deep (.v (.clo F.hallmarkref03_Like [] [])) [.t 73, .t 78],none⟩),(11, ⟨some 80, .un .not (.t 79),none⟩)]]
def r12 : List AO := [⟨some 4, .asg (.v (.bool false)),none⟩]
def r10 : List AO := [⟨some 67, .mv (.t 6),none⟩,⟨some 68, .bin .add (.t 67) (.v (.int .i64 1)),none⟩,⟨some 6, .asg (.t 68),none⟩]
def l2 : AC := .seq (.seq (.reg r9 [2, 3, 6, 66]) (.cond (.t 66) (.skip) (.exit 2))) (.seq (.block 3 (.seq (.dreg r11 [2, 3, 6, 80]) (.cond (.t 80) (.seq (.reg r12 [4]) (.ret)) (.skip)))) (.reg r10 [2, 3, 6]))
def r13 : List AO := [⟨some 4, .asg (.v (.bool true)),none⟩]
def body : AC := .seq (.reg r0 [2, 3]) (.seq (.seq (.reg r1 [2, 3, 43]) (.cond (.t 43) (.seq (.reg r2 [4]) (.ret)) (.skip))) (.seq (.seq (.reg r3 [2, 3, 5]) (.block 0 (.loop [2, 3, 5] l1))) (.seq (.seq (.reg r8 [2, 3, 6]) (.block 2 (.loop [2, 3, 6] l2))) (.seq (.reg r13 [4]) (.ret)))))
def fn : AFun := ⟨[.val, .val], 81, [.tmp 4], [], body⟩
end hallmarkref03_Like
namespace hallmarkref03_Parts
def r0 : List AO := [⟨some 2, .box (.t 0),none⟩,⟨some 4, .asg (.v (.int .i64 0)),none⟩]
def r1 : List AO := [⟨some 7, .fadr 4 (.t 2),none⟩,⟨some 8, .load 1 false (.t 7),none⟩,⟨some 9, .len false (.t 8),none⟩,⟨some 10, .bin .add (.v (.int .i64 1)) (.t 9),none⟩,⟨some 5, .asg (.t 10),none⟩]
def r2 : List AO := [⟨some 6, .asg (.v (.int .i64 0)),none⟩]
def r3 : List AO := [⟨some 11, .mv (.t 6),none⟩,⟨some 12, .fadr 3 (.t 2),none⟩,⟨some 13, .load 1 false (.t 12),none⟩,⟨some 14, .len false (.t 13),none⟩,⟨some 15, .bin .lss (.t 11) (.t 14),none⟩,⟨some 16, .mv (.t 15),none⟩,⟨some 17, .mv (.t 5), some (16, true)⟩,⟨some 18, .mv (.t 1), some (16, true)⟩,⟨some 19, .bin .leq (.t 17) (.t 18), some (16, true)⟩,⟨some 20, .pick (.t 16) (.t 19) (.v (.bool false)),none⟩]
def r5 : List AO := [⟨some 23, .mv (.t 5),none⟩,⟨some 24, .fadr 3 (.t 2),none⟩,⟨some 25, .load 1 false (.t 24),none⟩,⟨some 26, .mv (.t 6),none⟩,⟨some 27, .iadr 5 (.t 25) (.t 26),none⟩,⟨some 28, .load 5 true (.t 27),none⟩,⟨some 29, .mv (.t 1),none⟩,⟨some 30, .mv (.t 5),none⟩,⟨some 31, .bin .sub (.t 29) (.t 30),none⟩,⟨some 32, .call .deep (.v (.clo F.hallmarkref03_Parts [] [])) [.t 28, .t 31],none⟩,⟨some 33, .bin .add (.t 23) (.t 32),none⟩,⟨some 5, .asg (.t 33),none⟩]
def r4 : List AO := [⟨some 21, .mv (.t 6),none⟩,⟨some 22, .bin .add (.t 21) (.v (.int .i64 1)),none⟩,⟨some 6, .asg (.t 22),none⟩]
def l1 : AC := .seq (.seq (.reg r3 [1, 2, 5, 6, 20]) (.cond (.t 20) (.skip) (.exit 0))) (.seq (.block 1 (.reg r5 [1, 2, 5, 6])) (.reg r4 [1, 2, 5, 6]))
def r6 : List AO := [⟨some 34, .mv (.t 5),none⟩,⟨some 4, .asg (.t 34),none⟩]
def body : AC := .seq (.reg r0 [1, 2]) (.seq (.reg r1 [1, 2, 5]) (.seq (.seq (.reg r2 [1, 2, 5, 6]) (.block 0 (.loop [1, 2, 5, 6] l1))) (.seq (.reg r6 [4]) (.ret))))
def fn : AFun := ⟨[.val, .val], 35, [.tmp 4], [], body⟩
end hallmarkref03_Parts
namespace hallmarkref03_Number
def r0 : List AO := [⟨some 2, .asg (.v (.bool false)),none⟩]
def r1 : List AO := [⟨some 5, .mv (.t 0),none⟩,⟨some 3, .asg (.t 5),none⟩]
def r2 : List AO := [⟨some 6, .mv (.t 0),none⟩,⟨some 7, .len true (.t 6),none⟩,⟨some 8, .bin .gtr (.t 7) (.v (.int .i64 0)),none⟩,⟨some 9, .mv (.t 8),none⟩,⟨some 10, .mv (.t 0), some (9, true)⟩,⟨some 11, .idxS (.t 10) (.v (.int .i64 0)), some (9, true)⟩,⟨some 12, .bin .eql (.t 11) (.v (.int .u8 45)), some (9, true)⟩,⟨some 13, .pick (.t 9) (.t 12) (.v (.bool false)),none⟩]
def r3 : List AO := [⟨some 14, .mv (.t 0),none⟩,⟨some 15, .slc true 1 (.t 14) (some (.v (.int .i64 1))) none,none⟩,⟨some 3, .asg (.t 15),none⟩]
def r4 : List AO := [⟨some 4, .asg (.v (.int .i64 0)),none⟩]
def r5 : List AO := [⟨some 16, .mv (.t 4),none⟩,⟨some 17, .mv (.t 3),none⟩,⟨some 18, .len true (.t 17),none⟩,⟨some 19, .bin .lss (.t 16) (.t 18),none⟩]
def r7 : List AO := [⟨some 22, .mv (.t 3),none⟩,⟨some 23, .mv (.t 4),none⟩,⟨some 24, .idxS (.t 22) (.t 23),none⟩,⟨some 25, .bin .lss (.t 24) (.v (.int .u8 48)),none⟩,⟨some 26, .mv (.t 25),none⟩,⟨some 27, .mv (.t 3), some (26, false)⟩,⟨some 28, .mv (.t 4), some (26, false)⟩,⟨some 29, .idxS (.t 27) (.t 28), some (26, false)⟩,⟨some 30, .bin .gtr (.t 29) (.v (.int .u8 57)), some (26, false)⟩,⟨some 31, .pick (.t 26) (.v (.bool true)) (.t 30),none⟩]
def r8 : List AO := [⟨some 2, .asg (.v (.bool false)),none⟩]
def r6 : List AO := [⟨some 20, .mv (.t 4),none⟩,⟨some 21, .bin .add (.t 20) (.v (.int .i64 1)),none⟩,⟨some 4, .asg (.t 21),none⟩]
def l1 : AC := .seq (.seq (.reg r5 [0, 3, 4, 19]) (.cond (.t 19) (.skip) (.exit 0))) (.seq (.block 1 (.seq (.reg r7 [0, 3, 4, 31]) (.cond (.t 31) (.seq (.reg r8 [2]) (.ret)) (.skip)))) (.reg r6 [0, 3, 4]))
def r9 : List AO := [⟨some 32, .mv (.t 3),none⟩,⟨some 33, .len true (.t 32),none⟩,⟨some 34, .bin .eql (.t 33) (.v (.int .i64 0)),none⟩,⟨some 35, .mv (.t 34),none⟩,⟨some 36, .mv (.t 3), some (35, false)⟩,⟨some 37, .idxS (.t 36) (.v (.int .i64 0)), some (35, false)⟩,⟨some 38, .bin .eql (.t 37) (.v (.int .u8 48)), some (35, false)⟩,⟨some 39, .mv (.t 38), some (35, false)⟩,⟨some 40, .mv (.t 0), some (39, true)⟩,⟨some 41, .bin .neq (.t 40) (.v (.str [48])), some (39, true)⟩,⟨some 42, .pick (.t 39) (.t 41) (.v (.bool false)), some (35, false)⟩,⟨some 43, .pick (.t 35) (.v (.bool true)) (.t 42),none⟩]
def r10 : List AO := [⟨some 2, .asg (.v (.bool false)),none⟩]
def r11 : List AO := [⟨some 2, .asg (.v (.bool true)),none⟩]
def body : AC := .seq (.reg r0 [0]) (.seq (.reg r1 [0, 3]) (.seq (.seq (.reg r2 [0, 3, 13]) (.cond (.t 13) (.reg r3 [0, 3]) (.skip))) (.seq (.seq (.reg r4 [0, 3, 4]) (.block 0 (.loop [0, 3, 4] l1))) (.seq (.seq (.reg r9 [43]) (.cond (.t 43) (.seq (.reg r10 [2]) (.ret)) (.skip))) (.seq (.reg r11 [2]) (.ret))))))
def fn : AFun := ⟨[.val], 44, [.tmp 2], [], body⟩
end hallmarkref03_Number
namespace hallmarkref03_UTF
def r0 : List AO := [⟨some 2, .asg (.v (.bool false)),none⟩]
def r1 : List AO := [⟨some 3, .asg (.v (.int .i64 0)),none⟩]
def r2 : List AO := [⟨some 5, .mv (.t 3),none⟩,⟨some 6, .mv (.t 0),none⟩,⟨some 7, .len true (.t 6),none⟩,⟨some 8, .bin .lss (.t 5) (.t 7),none⟩]
def r3 : List AO := [⟨some 9, .mv (.t 0),none⟩,⟨some 10, .mv (.t 3),none⟩,⟨some 11, .call .deep (.v (.clo F.hallmarkref03_width [] [])) [.t 9, .t 10],none⟩,⟨some 4, .asg (.t 11),none⟩]
def r4 : List AO := [⟨some 12, .mv (.t 4),none⟩,⟨some 13, .bin .eql (.t 12) (.v (.int .i64 0)),none⟩]
def r5 : List AO := [⟨some 2, .asg (.v (.bool false)),none⟩]
def r6 : List AO := [⟨some 14, .mv (.t 3),none⟩,⟨some 15, .mv (.t 4),none⟩,⟨some 16, .bin .add (.t 14) (.t 15),none⟩,⟨some 3, .asg (.t 16),none⟩]
def l1 : AC := .seq (.seq (.reg r2 [0, 3, 8]) (.cond (.t 8) (.skip) (.exit 0))) (.block 1 (.seq (.reg r3 [0, 3, 4]) (.seq (.seq (.reg r4 [0, 3, 4, 13]) (.cond (.t 13) (.seq (.reg r5 [2]) (.ret)) (.skip))) (.reg r6 [0, 3]))))
def r7 : List AO := [⟨some 2, .asg (.v (.bool true)),none⟩]
def body : AC := .seq (.reg r0 [0]) (.seq (.seq (.reg r1 [0, 3]) (.block 0 (.loop [0, 3] l1))) (.seq (.reg r7 [2]) (.ret)))
def fn : AFun := ⟨[.val], 17, [.tmp 2], [], body⟩
end hallmarkref03_UTF
namespace hallmarkref03_Rise
def r0 : List AO := [⟨some 2, .asg (.v (.bool false)),none⟩]
def r1 : List AO := [⟨some 3, .asg (.v (.int .i64 0)),none⟩]
def r2 : List AO := [⟨some 4, .mv (.t 3),none⟩,⟨some 5, .mv (.t 0),none⟩,⟨some 6, .len false (.t 5),none⟩,⟨some 7, .bin .lss (.t 4) (.t 6),none⟩]
def r4 : List AO := [⟨some 10, .mv (.t 0),none⟩,⟨some 11, .mv (.t 3),none⟩,⟨some 12, .iadr 1 (.t 10) (.t 11),none⟩,⟨some 13, .load 1 false (.t 12),none⟩,⟨some 14, .call .deep (.v (.clo F.hallmarkref03_UTF [] [])) [.t 13],none⟩,⟨some 15, .un .not (.t 14),none⟩]
def r5 : List AO := [⟨some 2, .asg (.v (.bool false)),none⟩]
def r6 : List Ph := [.bag false [] [] [(0, ⟨some 16, .mv (.t 3),none⟩),(1, ⟨some 17, .bin .gtr (.t 16) (.v (.int .i64 0)),none⟩),(2, ⟨some 18, .mv (.t 17),none⟩),(3, ⟨some 19, .mv (.t 0), some (18, true)⟩),(4, ⟨some 20, .mv (.t 3), some (18, true)⟩),(5, ⟨some 21, .bin .sub (.t 20) (.v (.int .i64 1)), some (18, true)⟩),(6, ⟨some 22, .iadr 1 (.t 19) (.t 21), some (18, true)⟩),(7, ⟨some 23, .load 1 false (.t 22), some (18, true)⟩),(8, ⟨some 24, .mv (.t 0), some (18, true)⟩),(9, ⟨some 25, .mv (.t 3), some (18, true)⟩),(10, ⟨some 26, .iadr 1 (.t 24) (.t 25), some (18, true)⟩),(11, ⟨some 27, .load 1 false (.t 26), some (18, true)⟩),(12, ⟨some 28, .bin .geq (.t 23) (.t 27), some (18, true)⟩),(13, ⟨some 29, .pick (.t 18) (.t 28) (.v (.bool false)),none⟩)]]
def r7 : List AO := [⟨some 2, .asg (.v (.bool false)),none⟩]
def r3 : List AO := [⟨some 8, .mv (.t 3),none⟩,⟨some 9, .bin .add (.t 8) (.v (.int .i64 1)),none⟩,⟨some 3, .asg (.t 9),none⟩]
def l1 : AC := .seq (.seq (.reg r2 [0, 3, 7]) (.cond (.t 7) (.skip) (.exit 0))) (.seq (.block 1 (.seq (.seq (.reg r4 [0, 3, 15]) (.cond (.t 15) (.seq (.reg r5 [2]) (.ret)) (.skip))) (.seq (.dreg r6 [0, 3, 29]) (.cond (.t 29) (.seq (.reg r7 [2]) (.ret)) (.skip))))) (.reg r3 [0, 3]))
def r8 : List AO := [⟨some 2, .asg (.v (.bool true)),none⟩]
def body : AC := .seq (.reg r0 [0]) (.seq (.seq (.reg r1 [0, 3]) (.block 0 (.loop [0, 3] l1))) (.seq (.reg r8 [2]) (.ret)))
def fn : AFun := ⟨[.val], 30, [.tmp 2], [], body⟩
end hallmarkref03_Rise
namespace hallmarkref03_All
def r0 : List AO := [⟨some 2, .asg (.v (.bool false)),none⟩]
def r1 : List AO := [⟨some 3, .asg (.v (.int .i64 0)),none⟩]
def r2 : List AO := [⟨some 4, .mv (.t 3),none⟩,⟨some 5, .mv (.t 0),none⟩,⟨some 6, .len false (.t 5),none⟩,⟨some 7, .bin .lss (.t 4) (.t 6),none⟩]
def r4 : List AO := [⟨some 10, .mv (.t 0),none⟩,⟨some 11, .mv (.t 3),none⟩,⟨some 12, .iadr 5 (.t 10) (.t 11),none⟩,⟨some 13, .load 5 true (.t 12),none⟩,⟨some 14, .call .deep (.v (.clo F.hallmarkref03_Formed [] [])) [.t 13],none⟩,⟨some 15, .un .not (.t 14),none⟩]
def r5 : List AO := [⟨some 2, .asg (.v (.bool false)),none⟩]
def r3 : List AO := [⟨some 8, .mv (.t 3),none⟩,⟨some 9, .bin .add (.t 8) (.v (.int .i64 1)),none⟩,⟨some 3, .asg (.t 9),none⟩]
def l1 : AC := .seq (.seq (.reg r2 [0, 3, 7]) (.cond (.t 7) (.skip) (.exit 0))) (.seq (.block 1 (.seq (.reg r4 [0, 3, 15]) (.cond (.t 15) (.seq (.reg r5 [2]) (.ret)) (.skip)))) (.reg r3 [0, 3]))
def r6 : List AO := [⟨some 2, .asg (.v (.bool true)),none⟩]
def body : AC := .seq (.reg r0 [0]) (.seq (.seq (.reg r1 [0, 3]) (.block 0 (.loop [0, 3] l1))) (.seq (.reg r6 [2]) (.ret)))
def fn : AFun := ⟨[.val], 16, [.tmp 2], [], body⟩
end hallmarkref03_All
namespace value_Twin
def r0 : List AO := [⟨some 1, .box (.t 0),none⟩,⟨some 2, .alloc [.av (.int .i64 0), .av (.str []), .av (.str []), .own 5 [], .own 1 []],none⟩]
def r1 : List AO := [⟨some 4, .fadr 4 (.t 1),none⟩,⟨some 5, .load 1 false (.t 4),none⟩,⟨some 6, .call .none (.v (.clo F.slices_Clone_Lstring_string [] [])) [.t 5],none⟩,⟨some 7, .fadr 4 (.t 1),none⟩,⟨none, .store 1 (.t 7) (.t 6),none⟩]
def r2 : List AO := [⟨some 8, .fadr 3 (.t 1),none⟩,⟨some 9, .load 1 false (.t 8),none⟩,⟨some 10, .call .none (.v (.clo F.slices_Clone_LValue_Value [] [])) [.t 9],none⟩,⟨some 11, .fadr 3 (.t 1),none⟩,⟨none, .store 1 (.t 11) (.t 10),none⟩]
def r3 : List AO := [⟨some 12, .fadr 3 (.t 1),none⟩,⟨some 13, .load 1 false (.t 12),none⟩,⟨some 14, .len false (.t 13),none⟩,⟨some 15, .mv (.v (.int .i64 0)),none⟩]
def r4 : List AO := [⟨some 16, .bin .lss (.t 15) (.t 14),none⟩]
def r5 : List AO := [⟨some 17, .mv (.t 15),none⟩,⟨some 3, .asg (.t 17),none⟩]
def r6 : List Ph := [.bag false [] [25] [(0, ⟨some 18, .fadr 3 (.t 1),none⟩),(1, ⟨some 19, .load 1 false (.t 18),none⟩),(2, ⟨some 20, .mv (.t 3),none⟩),(3, ⟨some 21, .fadr 3 (.t 1),none⟩),(4, ⟨some 22, .load 1 false (.t 21),none⟩),(5, ⟨some 23, .mv (.t 3),none⟩),(6, ⟨some 24, .iadr 5 (.t 22) (.t 23),none⟩),(7, ⟨some 25, .load 5 true (.t 24),none⟩),(8, ⟨some 26, .call .none (.v (.clo F.value_Twin [] [])) [.t 25],none⟩),(9, ⟨some 27, .iadr 5 (.t 19) (.t 20),none⟩)],.one 10 ⟨none, .store 5 (.t 27) (.t 26),none⟩]
def r7 : List AO := [⟨some 28, .bin .add (.t 15) (.v (.int .i64 1)),none⟩,⟨some 15, .mv (.t 28),none⟩]
def l1 : AC := .seq (.reg r4 [1, 2, 14, 15, 16]) (.seq (.cond (.t 16) (.skip) (.exit 0)) (.seq (.block 1 (.seq (.reg r5 [1, 2, 3, 14, 15]) (.dreg r6 [1, 2, 14, 15]))) (.reg r7 [1, 2, 14, 15])))
def r8 : List AO := [⟨some 29, .take 5 true (.t 1),none⟩,⟨none, .store 5 (.t 2) (.t 29),none⟩]
def body : AC := .seq (.reg r0 [1, 2]) (.seq (.reg r1 [1, 2]) (.seq (.reg r2 [1, 2]) (.seq (.seq (.reg r3 [1, 2, 14, 15]) (.block 0 (.loop [1, 2, 14, 15] l1))) (.seq (.reg r8 [2]) (.ret)))))
def fn : AFun := ⟨[.val], 30, [.cell 2 5 true], [], body⟩
end value_Twin
namespace hallmarkref03_width
def r0 : List AO := [⟨some 4, .asg (.v (.int .i64 0)),none⟩]
def r1 : List AO := [⟨some 8, .mv (.t 0),none⟩,⟨some 9, .mv (.t 1),none⟩,⟨some 10, .idxS (.t 8) (.t 9),none⟩,⟨some 5, .asg (.t 10),none⟩]
def r2 : List AO := [⟨some 11, .mv (.t 5),none⟩,⟨some 12, .bin .lss (.t 11) (.v (.int .u8 128)),none⟩]
def r3 : List AO := [⟨some 4, .asg (.v (.int .i64 1)),none⟩]
def r4 : List AO := [⟨some 13, .mv (.t 5),none⟩,⟨some 14, .bin .geq (.t 13) (.v (.int .u8 194)),none⟩,⟨some 15, .mv (.t 14),none⟩,⟨some 16, .mv (.t 5), some (15, true)⟩,⟨some 17, .bin .leq (.t 16) (.v (.int .u8 223)), some (15, true)⟩,⟨some 18, .pick (.t 15) (.t 17) (.v (.bool false)),none⟩,⟨some 19, .mv (.t 18),none⟩,⟨some 20, .mv (.t 0), some (19, true)⟩,⟨some 21, .mv (.t 1), some (19, true)⟩,⟨some 22, .bin .add (.t 21) (.v (.int .i64 1)), some (19, true)⟩,⟨some 23, .call .deep (.v (.clo F.hallmarkref03_trail [] [])) [.t 20, .t 22, .v (.int .i64 1), .v (.int .u8 128), .v (.int .u8 191)], some (19, true)⟩,⟨some 24, .pick (.t 19) (.t 23) (.v (.bool false)),none⟩]
def r5 : List AO := [⟨some 4, .asg (.v (.int .i64 2)),none⟩]
def r6 : List AO := [⟨some 6, .asg (.v (.int .u8 128)),none⟩]
def r7 : List AO := [⟨some 7, .asg (.v (.int .u8 191)),none⟩]
def r8 : List AO := [⟨some 25, .mv (.t 5),none⟩,⟨some 26, .bin .eql (.t 25) (.v (.int .u8 224)),none⟩]
def r9 : List AO := [⟨some 6, .asg (.v (.int .u8 160)),none⟩]
def r10 : List AO := [⟨some 27, .mv (.t 5),none⟩,⟨some 28, .bin .eql (.t 27) (.v (.int .u8 237)),none⟩]
def r11 : List AO := [⟨some 7, .asg (.v (.int .u8 159)),none⟩]
def r12 : List AO := [⟨some 29, .mv (.t 5),none⟩,⟨some 30, .bin .eql (.t 29) (.v (.int .u8 240)),none⟩]
def r13 : List AO := [⟨some 6, .asg (.v (.int .u8 144)),none⟩]
def r14 : List AO := [⟨some 31, .mv (.t 5),none⟩,⟨some 32, .bin .eql (.t 31) (.v (.int .u8 244)),none⟩]
def r15 : List AO := [⟨some 7, .asg (.v (.int .u8 143)),none⟩]
def r16 : List AO := [⟨some 33, .mv (.t 5),none⟩,⟨some 34, .bin .geq (.t 33) (.v (.int .u8 224)),none⟩,⟨some 35, .mv (.t 34),none⟩,⟨some 36, .mv (.t 5), some (35, true)⟩,⟨some 37, .bin .leq (.t 36) (.v (.int .u8 239)), some (35, true)⟩,⟨some 38, .pick (.t 35) (.t 37) (.v (.bool false)),none⟩,⟨some 39, .mv (.t 38),none⟩,⟨some 40, .mv (.t 0), some (39, true)⟩,⟨some 41, .mv (.t 1), some (39, true)⟩,⟨some 42, .bin .add (.t 41) (.v (.int .i64 1)), some (39, true)⟩,⟨some 43, .mv (.t 6), some (39, true)⟩,⟨some 44, .mv (.t 7), some (39, true)⟩,⟨some 45, .call .deep (.v (.clo F.hallmarkref03_trail [] [])) [.t 40, .t 42, .v (.int .i64 2), .t 43, .t 44], some (39, true)⟩,⟨some 46, .pick (.t 39) (.t 45) (.v (.bool false)),none⟩]
def r17 : List AO := [⟨some 4, .asg (.v (.int .i64 3)),none⟩]
def r18 : List AO := [⟨some 47, .mv (.t 5),none⟩,⟨some 48, .bin .geq (.t 47) (.v (.int .u8 240)),none⟩,⟨some 49, .mv (.t 48),none⟩,⟨some 50, .mv (.t 5), some (49, true)⟩,⟨some 51, .bin .leq (.t 50) (.v (.int .u8 244)), some (49, true)⟩,⟨some 52, .pick (.t 49) (.t 51) (.v (.bool false)),none⟩,⟨some 53, .mv (.t 52),none⟩,⟨some 54, .mv (.t 0), some (53, true)⟩,⟨some 55, .mv (.t 1), some (53, true)⟩,⟨some 56, .bin .add (.t 55) (.v (.int .i64 1)), some (53, true)⟩,⟨some 57, .mv (.t 6), some (53, true)⟩,⟨some 58, .mv (.t 7), some (53, true)⟩,⟨some 59, .call .deep (.v (.clo F.hallmarkref03_trail [] [])) [.t 54, .t 56, .v (.int .i64 3), .t 57, .t 58], some (53, true)⟩,⟨some 60, .pick (.t 53) (.t 59) (.v (.bool false)),none⟩]
def r19 : List AO := [⟨some 4, .asg (.v (.int .i64 4)),none⟩]
def r20 : List AO := [⟨some 4, .asg (.v (.int .i64 0)),none⟩]
def body : AC := .seq (.reg r0 [0, 1]) (.seq (.reg r1 [0, 1, 5]) (.seq (.seq (.reg r2 [0, 1, 5, 12]) (.cond (.t 12) (.seq (.reg r3 [4]) (.ret)) (.skip))) (.seq (.seq (.reg r4 [0, 1, 5, 24]) (.cond (.t 24) (.seq (.reg r5 [4]) (.ret)) (.skip))) (.seq (.reg r6 [0, 1, 5, 6]) (.seq (.reg r7 [0, 1, 5, 6, 7]) (.seq (.seq (.reg r8 [0, 1, 5, 6, 7, 26]) (.cond (.t 26) (.reg r9 [0, 1, 5, 6, 7]) (.skip))) (.seq (.seq (.reg r10 [0, 1, 5, 6, 7, 28]) (.cond (.t 28) (.reg r11 [0, 1, 5, 6, 7]) (.skip))) (.seq (.seq (.reg r12 [0, 1, 5, 6, 7, 30]) (.cond (.t 30) (.reg r13 [0, 1, 5, 6, 7]) (.skip))) (.seq (.seq (.reg r14 [0, 1, 5, 6, 7, 32]) (.cond (.t 32) (.reg r15 [0, 1, 5, 6, 7]) (.skip))) (.seq (.seq (.reg r16 [0, 1, 5, 6, 7, 46]) (.cond (.t 46) (.seq (.reg r17 [4]) (.ret)) (.skip))) (.seq (.seq (.reg r18 [60]) (.cond (.t 60) (.seq (.reg r19 [4]) (.ret)) (.skip))) (.seq (.reg r20 [4]) (.ret)))))))))))))
def fn : AFun := ⟨[.val, .val], 61, [.tmp 4], [], body⟩
end hallmarkref03_width
namespace hallmarkref03_texts
def r0 : List AO := [⟨some 2, .asgo (.w [.own 1 []] false),none⟩]
def r1 : List AO := [⟨some 5, .buildS 0 1 [.av (.str [])] [],none⟩,⟨some 3, .asgo (.t 5),none⟩]
def r2 : List AO := [⟨some 4, .asg (.v (.int .i64 0)),none⟩]
def r3 : List AO := [⟨some 6, .mv (.t 4),none⟩,⟨some 7, .mv (.t 0),none⟩,⟨some 8, .len false (.t 7),none⟩,⟨some 9, .bin .lss (.t 6) (.t 8),none⟩]
def r5 : List AO := [⟨some 12, .mvt 3,none⟩,⟨some 13, .mv (.t 0),none⟩,⟨some 14, .mv (.t 4),none⟩,⟨some 15, .iadr 1 (.t 13) (.t 14),none⟩,⟨some 16, .load 1 false (.t 15),none⟩,⟨some 17, .buildS 1 1 [.av (.str [])] [(0, 1, .t 16)],none⟩,⟨some 18, .append 16 1 (.t 12) (.t 17),none⟩,⟨some 3, .asgo (.t 18),none⟩]
def r4 : List AO := [⟨some 10, .mv (.t 4),none⟩,⟨some 11, .bin .add (.t 10) (.v (.int .i64 1)),none⟩,⟨some 4, .asg (.t 11),none⟩]
def l1 : AC := .seq (.seq (.reg r3 [0, 3, 4, 9]) (.cond (.t 9) (.skip) (.exit 0))) (.seq (.block 1 (.reg r5 [0, 3, 4])) (.reg r4 [0, 3, 4]))
def r6 : List AO := [⟨some 19, .mvt 3,none⟩,⟨some 2, .asgo (.t 19),none⟩]
def body : AC := .seq (.reg r0 [0]) (.seq (.reg r1 [0, 3]) (.seq (.seq (.reg r2 [0, 3, 4]) (.block 0 (.loop [0, 3, 4] l1))) (.seq (.reg r6 [2]) (.ret))))
def fn : AFun := ⟨[.val], 20, [.tmp 2], [2, 3], body⟩
end hallmarkref03_texts
namespace hallmarkref03_trail
def r0 : List AO := [⟨some 10, .asg (.v (.bool false)),none⟩]
def r1 : List AO := [⟨some 12, .mv (.t 1),none⟩,⟨some 13, .mv (.t 2),none⟩,⟨some 14, .bin .add (.t 12) (.t 13),none⟩,⟨some 15, .mv (.t 0),none⟩,⟨some 16, .len true (.t 15),none⟩,⟨some 17, .bin .gtr (.t 14) (.t 16),none⟩]
def r2 : List AO := [⟨some 10, .asg (.v (.bool false)),none⟩]
def r3 : List AO := [⟨some 11, .asg (.v (.int .i64 0)),none⟩]
def r4 : List AO := [⟨some 18, .mv (.t 11),none⟩,⟨some 19, .mv (.t 2),none⟩,⟨some 20, .bin .lss (.t 18) (.t 19),none⟩]
def r6 : List AO := [⟨some 23, .mv (.t 0),none⟩,⟨some 24, .mv (.t 1),none⟩,⟨some 25, .mv (.t 11),none⟩,⟨some 26, .bin .add (.t 24) (.t 25),none⟩,⟨some 27, .idxS (.t 23) (.t 26),none⟩,⟨some 28, .bin .lss (.t 27) (.v (.int .u8 128)),none⟩,⟨some 29, .mv (.t 28),none⟩,⟨some 30, .mv (.t 0), some (29, false)⟩,⟨some 31, .mv (.t 1), some (29, false)⟩,⟨some 32, .mv (.t 11), some (29, false)⟩,⟨some 33, .bin .add (.t 31) (.t 32), some (29, false)⟩,⟨some 34, .idxS (.t 30) (.t 33), some (29, false)⟩,⟨some 35, .bin .gtr (.t 34) (.v (.int .u8 191)), some (29, false)⟩,⟨some 36, .pick (.t 29) (.v (.bool true)) (.t 35),none⟩]
def r7 : List AO := [⟨some 10, .asg (.v (.bool false)),none⟩]
def r5 : List AO := [⟨some 21, .mv (.t 11),none⟩,⟨some 22, .bin .add (.t 21) (.v (.int .i64 1)),none⟩,⟨some 11, .asg (.t 22),none⟩]
def l1 : AC := .seq (.seq (.reg r4 [0, 1, 2, 3, 4, 11, 20]) (.cond (.t 20) (.skip) (.exit 0))) (.seq (.block 1 (.seq (.reg r6 [0, 1, 2, 3, 4, 11, 36]) (.cond (.t 36) (.seq (.reg r7 [10]) (.ret)) (.skip)))) (.reg r5 [0, 1, 2, 3, 4, 11]))
def r8 : List AO := [⟨some 37, .mv (.t 0),none⟩,⟨some 38, .mv (.t 1),none⟩,⟨some 39, .idxS (.t 37) (.t 38),none⟩,⟨some 40, .mv (.t 3),none⟩,⟨some 41, .bin .geq (.t 39) (.t 40),none⟩,⟨some 42, .mv (.t 41),none⟩,⟨some 43, .mv (.t 0), some (42, true)⟩,⟨some 44, .mv (.t 1), some (42, true)⟩,⟨some 45, .idxS (.t 43) (.t 44), some (42, true)⟩,⟨some 46, .mv (.t 4), some (42, true)⟩,⟨some 47, .bin .leq (.t 45) (.t 46), some (42, true)⟩,⟨some 48, .pick (.t 42) (.t 47) (.v (.bool false)),none⟩,⟨some 10, .asg (.t 48),none⟩]
def body : AC := .seq (.reg r0 [0, 1, 2, 3, 4]) (.seq (.seq (.reg r1 [0, 1, 2, 3, 4, 17]) (.cond (.t 17) (.seq (.reg r2 [10]) (.ret)) (.skip))) (.seq (.seq (.reg r3 [0, 1, 2, 3, 4, 11]) (.block 0 (.loop [0, 1, 2, 3, 4, 11] l1))) (.seq (.reg r8 [10]) (.ret))))
def fn : AFun := ⟨[.val, .val, .val, .val, .val], 49, [.tmp 10], [], body⟩
end hallmarkref03_trail
namespace tens_Formed
def r0 : List AO := [⟨some 2, .asg (.v (.bool false)),none⟩]
def r1 : List AO := [⟨some 4, .mv (.t 0),none⟩,⟨some 5, .bin .eql (.t 4) (.v (.str [48])),none⟩]
def r2 : List AO := [⟨some 2, .asg (.v (.bool true)),none⟩]
def r3 : List AO := [⟨some 6, .mv (.t 0),none⟩,⟨some 7, .bin .neq (.t 6) (.v (.str [])),none⟩,⟨some 8, .mv (.t 7),none⟩,⟨some 9, .mv (.t 0), some (8, true)⟩,⟨some 10, .idxS (.t 9) (.v (.int .i64 0)), some (8, true)⟩,⟨some 11, .bin .eql (.t 10) (.v (.int .u8 45)), some (8, true)⟩,⟨some 12, .pick (.t 8) (.t 11) (.v (.bool false)),none⟩]
def r4 : List AO := [⟨some 13, .mv (.t 0),none⟩,⟨some 14, .slc true 1 (.t 13) (some (.v (.int .i64 1))) none,none⟩,⟨some 0, .asg (.t 14),none⟩]
def r5 : List AO := [⟨some 15, .mv (.t 0),none⟩,⟨some 16, .bin .eql (.t 15) (.v (.str [])),none⟩,⟨some 17, .mv (.t 16),none⟩,⟨some 18, .mv (.t 0), some (17, false)⟩,⟨some 19, .idxS (.t 18) (.v (.int .i64 0)), some (17, false)⟩,⟨some 20, .bin .eql (.t 19) (.v (.int .u8 48)), some (17, false)⟩,⟨some 21, .pick (.t 17) (.v (.bool true)) (.t 20),none⟩]
def r6 : List AO := [⟨some 2, .asg (.v (.bool false)),none⟩]
def r7 : List AO := [⟨some 22, .mv (.t 0),none⟩,⟨some 23, .len true (.t 22),none⟩,⟨some 24, .mv (.v (.int .i64 0)),none⟩]
def r8 : List AO := [⟨some 25, .bin .lss (.t 24) (.t 23),none⟩]
def r9 : List AO := [⟨some 26, .mv (.t 24),none⟩,⟨some 3, .asg (.t 26),none⟩]
def r10 : List AO := [⟨some 27, .mv (.t 0),none⟩,⟨some 28, .mv (.t 3),none⟩,⟨some 29, .idxS (.t 27) (.t 28),none⟩,⟨some 30, .bin .lss (.t 29) (.v (.int .u8 48)),none⟩,⟨some 31, .mv (.t 30),none⟩,⟨some 32, .mv (.t 0), some (31, false)⟩,⟨some 33, .mv (.t 3), some (31, false)⟩,⟨some 34, .idxS (.t 32) (.t 33), some (31, false)⟩,⟨some 35, .bin .gtr (.t 34) (.v (.int .u8 57)), some (31, false)⟩,⟨some 36, .pick (.t 31) (.v (.bool true)) (.t 35),none⟩]
def r11 : List AO := [⟨some 2, .asg (.v (.bool false)),none⟩]
def r12 : List AO := [⟨some 37, .bin .add (.t 24) (.v (.int .i64 1)),none⟩,⟨some 24, .mv (.t 37),none⟩]
def l1 : AC := .seq (.reg r8 [0, 23, 24, 25]) (.seq (.cond (.t 25) (.skip) (.exit 0)) (.seq (.block 1 (.seq (.reg r9 [0, 3, 23, 24]) (.seq (.reg r10 [0, 23, 24, 36]) (.cond (.t 36) (.seq (.reg r11 [2]) (.ret)) (.skip))))) (.reg r12 [0, 23, 24])))
def r13 : List AO := [⟨some 2, .asg (.v (.bool true)),none⟩]
def body : AC := .seq (.reg r0 [0]) (.seq (.seq (.reg r1 [0, 5]) (.cond (.t 5) (.seq (.reg r2 [2]) (.ret)) (.skip))) (.seq (.seq (.reg r3 [0, 12]) (.cond (.t 12) (.reg r4 [0]) (.skip))) (.seq (.seq (.reg r5 [0, 21]) (.cond (.t 21) (.seq (.reg r6 [2]) (.ret)) (.skip))) (.seq (.seq (.reg r7 [0, 23, 24]) (.block 0 (.loop [0, 23, 24] l1))) (.seq (.reg r13 [2]) (.ret))))))
def fn : AFun := ⟨[.val], 38, [.tmp 2], [], body⟩
end tens_Formed
namespace cmp_isNaN_string
def r0 : List AO := [⟨some 2, .asg (.v (.bool false)),none⟩]
def r1 : List AO := [⟨some 3, .mv (.t 0),none⟩,⟨some 4, .mv (.t 0),none⟩,⟨some 5, .bin .neq (.t 3) (.t 4),none⟩,⟨some 2, .asg (.t 5),none⟩]
def body : AC := .seq (.reg r0 [0]) (.seq (.reg r1 [2]) (.ret))
def fn : AFun := ⟨[.val], 6, [.tmp 2], [], body⟩
end cmp_isNaN_string
namespace hallmarklaw03_lives
def r0 : List AO := [⟨some 0, .asg (.v (.bool false)),none⟩]
def r1 : List AO := [⟨some 4, .buildS 3 1 [.av (.str [])] [(0, 1, .v (.str [98])), (1, 1, .v (.str [97])), (2, 1, .v (.str [98]))],none⟩,⟨some 5, .build [.av (.int .i64 0), .av (.str []), .av (.str []), .own 5 [], .own 1 []] [(0, 1, .v (.int .i64 3)), (1, 1, .v (.str [49]))],none⟩,⟨some 6, .build [.av (.int .i64 0), .av (.str []), .av (.str []), .own 5 [], .own 1 []] [(0, 1, .v (.int .i64 2))],none⟩,⟨some 7, .build [.av (.int .i64 0), .av (.str []), .av (.str []), .own 5 [], .own 1 []] [(0, 1, .v (.int .i64 4)), (2, 1, .v (.str [120]))],none⟩,⟨some 8, .buildS 3 5 [.av (.int .i64 0), .av (.str []), .av (.str []), .own 5 [], .own 1 []] [(0, 5, .t 5), (5, 5, .t 6), (10, 5, .t 7)],none⟩,⟨some 9, .call .deep (.v (.clo F.value_Make [] [])) [.t 4, .t 8],none⟩,⟨some 3, .mv (.t 9),none⟩,⟨some 10, .ext (.t 3) 0,none⟩,⟨some 11, .ext (.t 3) 1,none⟩,⟨some 1, .alloc [.av (.int .i64 0), .av (.str []), .av (.str []), .own 5 [], .own 1 []],none⟩,⟨none, .store 5 (.t 1) (.t 10),none⟩,⟨some 2, .asg (.t 11),none⟩]
def r2 : List AO := [⟨some 12, .mv (.t 2),none⟩,⟨some 13, .bin .eql (.t 12) (.v (.int .i64 0)),none⟩,⟨some 14, .mv (.t 13),none⟩,⟨some 15, .take 5 true (.t 1), some (14, true)⟩,⟨some 16, .buildS 2 1 [.av (.str [])] [(0, 1, .v (.str [97])), (1, 1, .v (.str [98]))], some (14, true)⟩,⟨some 17, .build [.av (.int .i64 0), .av (.str []), .av (.str []), .own 5 [], .own 1 []] [(0, 1, .v (.int .i64 2))], some (14, true)⟩,⟨some 18, .build [.av (.int .i64 0), .av (.str []), .av (.str []), .own 5 [], .own 1 []] [(0, 1, .v (.int .i64 4)), (2, 1, .v (.str [120]))], some (14, true)⟩,⟨some 19, .buildS 2 5 [.av (.int .i64 0), .av (.str []), .av (.str []), .own 5 [], .own 1 []] [(0, 5, .t 17), (5, 5, .t 18)], some (14, true)⟩,⟨some 20, .build [.av (.int .i64 0), .av (.str []), .av (.str []), .own 5 [], .own 1 []] [(0, 1, .v (.int .i64 6)), (4, 1, .t 16), (3, 1, .t 19)], some (14, true)⟩,⟨some 21, .call .deep (.v (.clo F.hallmarkref03_Like [] [])) [.t 15, .t 20], some (14, true)⟩,⟨some 22, .pick (.t 14) (.t 21) (.v (.bool false)),none⟩,⟨some 0, .asg (.t 22),none⟩]
def body : AC := .seq (.reg r0 []) (.seq (.reg r1 [1, 2]) (.seq (.reg r2 [0]) (.ret)))
def fn : AFun := ⟨[], 23, [.tmp 0], [], body⟩
end hallmarklaw03_lives
namespace value_Formed
def r0 : List AO := [⟨some 1, .box (.t 0),none⟩,⟨some 2, .asg (.v (.bool false)),none⟩]
def r1 : List AO := [⟨some 3, .fadr 0 (.t 1),none⟩,⟨some 4, .load 1 false (.t 3),none⟩]
def r2 : List AO := [⟨some 6, .bin .eql (.t 4) (.v (.int .i64 0)),none⟩,⟨some 5, .asg (.t 6),none⟩]
def r3 : List AO := [⟨some 7, .bin .eql (.t 4) (.v (.int .i64 1)),none⟩,⟨some 5, .asg (.t 7),none⟩]
def r4 : List AO := [⟨some 8, .bin .eql (.t 4) (.v (.int .i64 2)),none⟩,⟨some 5, .asg (.t 8),none⟩]
def r5 : List AO := [⟨some 9, .take 5 true (.t 1),none⟩,⟨some 10, .call .deep (.v (.clo F.value_empty [] [])) [.t 9, .v (.bool false), .v (.bool false), .v (.bool false), .v (.bool false)],none⟩,⟨some 2, .asg (.t 10),none⟩]
def r6 : List AO := [⟨some 12, .bin .eql (.t 4) (.v (.int .i64 3)),none⟩,⟨some 11, .asg (.t 12),none⟩]
def r7 : List AO := [⟨some 13, .load 5 true (.t 1),none⟩,⟨some 14, .call .deep (.v (.clo F.value_empty [] [])) [.t 13, .v (.bool true), .v (.bool false), .v (.bool false), .v (.bool false)],none⟩,⟨some 15, .mv (.t 14),none⟩,⟨some 16, .fadr 1 (.t 1), some (15, true)⟩,⟨some 17, .load 1 false (.t 16), some (15, true)⟩,⟨some 18, .call .deep (.v (.clo F.tens_Formed [] [])) [.t 17], some (15, true)⟩,⟨some 19, .pick (.t 15) (.t 18) (.v (.bool false)),none⟩,⟨some 2, .asg (.t 19),none⟩]
def r8 : List AO := [⟨some 21, .bin .eql (.t 4) (.v (.int .i64 4)),none⟩,⟨some 20, .asg (.t 21),none⟩]
def r9 : List AO := [⟨some 22, .load 5 true (.t 1),none⟩,⟨some 23, .call .deep (.v (.clo F.value_empty [] [])) [.t 22, .v (.bool false), .v (.bool true), .v (.bool false), .v (.bool false)],none⟩,⟨some 24, .mv (.t 23),none⟩,⟨some 25, .fadr 2 (.t 1), some (24, true)⟩,⟨some 26, .load 1 false (.t 25), some (24, true)⟩,⟨some 27, .call .deep (.v (.clo F.utf_Valid [] [])) [.t 26], some (24, true)⟩,⟨some 28, .pick (.t 24) (.t 27) (.v (.bool false)),none⟩,⟨some 2, .asg (.t 28),none⟩]
def r10 : List AO := [⟨some 30, .bin .eql (.t 4) (.v (.int .i64 5)),none⟩,⟨some 29, .asg (.t 30),none⟩]
def r11 : List AO := [⟨some 31, .load 5 true (.t 1),none⟩,⟨some 32, .call .deep (.v (.clo F.value_empty [] [])) [.t 31, .v (.bool false), .v (.bool false), .v (.bool true), .v (.bool false)],none⟩,⟨some 33, .mv (.t 32),none⟩,⟨some 34, .fadr 3 (.t 1), some (33, true)⟩,⟨some 35, .take 1 false (.t 34), some (33, true)⟩,⟨some 36, .call .deep (.v (.clo F.value_allFormed [] [])) [.t 35], some (33, true)⟩,⟨some 37, .pick (.t 33) (.t 36) (.v (.bool false)),none⟩,⟨some 2, .asg (.t 37),none⟩]
def r12 : List AO := [⟨some 39, .bin .eql (.t 4) (.v (.int .i64 6)),none⟩,⟨some 38, .asg (.t 39),none⟩]
def r13 : List AO := [⟨some 40, .load 5 true (.t 1),none⟩,⟨some 41, .call .deep (.v (.clo F.value_empty [] [])) [.t 40, .v (.bool false), .v (.bool false), .v (.bool true), .v (.bool true)],none⟩,⟨some 42, .mv (.t 41),none⟩,⟨some 43, .fadr 3 (.t 1), some (42, true)⟩,⟨some 44, .load 1 false (.t 43), some (42, true)⟩,⟨some 45, .len false (.t 44), some (42, true)⟩,⟨some 46, .fadr 4 (.t 1), some (42, true)⟩,⟨some 47, .load 1 false (.t 46), some (42, true)⟩,⟨some 48, .len false (.t 47), some (42, true)⟩,⟨some 49, .bin .eql (.t 45) (.t 48), some (42, true)⟩,⟨some 50, .pick (.t 42) (.t 49) (.v (.bool false)),none⟩,⟨some 51, .mv (.t 50),none⟩,⟨some 52, .fadr 4 (.t 1), some (51, true)⟩,⟨some 53, .load 1 false (.t 52), some (51, true)⟩,⟨some 54, .call .deep (.v (.clo F.value_rise [] [])) [.t 53], some (51, true)⟩,⟨some 55, .pick (.t 51) (.t 54) (.v (.bool false)),none⟩,⟨some 56, .mv (.t 55),none⟩,⟨some 57, .fadr 3 (.t 1), some (56, true)⟩,⟨some 58, .take 1 false (.t 57), some (56, true)⟩,⟨some 59, .call .deep (.v (.clo F.value_allFormed [] [])) [.t 58], some (56, true)⟩,⟨some 60, .pick (.t 56) (.t 59) (.v (.bool false)),none⟩,⟨some 2, .asg (.t 60),none⟩]
def r14 : List AO := [⟨some 2, .asg (.v (.bool false)),none⟩]
def body : AC := .seq (.reg r0 [1]) (.seq (.seq (.reg r1 [1, 4]) (.block 0 (.seq (.seq (.reg r2 [1, 4, 5]) (.cond (.t 5) (.skip) (.seq (.reg r3 [1, 4, 5]) (.cond (.t 5) (.skip) (.reg r4 [1, 4, 5]))))) (.cond (.t 5) (.seq (.reg r5 [2]) (.ret)) (.seq (.reg r6 [1, 4, 11]) (.cond (.t 11) (.seq (.reg r7 [2]) (.ret)) (.seq (.reg r8 [1, 4, 20]) (.cond (.t 20) (.seq (.reg r9 [2]) (.ret)) (.seq (.reg r10 [1, 4, 29]) (.cond (.t 29) (.seq (.reg r11 [2]) (.ret)) (.seq (.reg r12 [1, 38]) (.cond (.t 38) (.seq (.reg r13 [2]) (.ret)) (.skip))))))))))))) (.seq (.reg r14 [2]) (.ret)))
def fn : AFun := ⟨[.val], 61, [.tmp 2], [], body⟩
end value_Formed
namespace value_Merge
def r0 : List AO := [⟨some 2, .box (.t 0),none⟩,⟨some 3, .box (.t 1),none⟩,⟨some 4, .alloc [.av (.int .i64 0), .av (.str []), .av (.str []), .own 5 [], .own 1 []],none⟩,⟨some 5, .asg (.v (.int .i64 0)),none⟩]
def r1 : List AO := [⟨some 9, .load 5 true (.t 2),none⟩,⟨some 10, .call .deep (.v (.clo F.value_isObject [] [])) [.t 9],none⟩,⟨some 11, .un .not (.t 10),none⟩,⟨some 12, .mv (.t 11),none⟩,⟨some 13, .load 5 true (.t 3), some (12, false)⟩,⟨some 14, .call .deep (.v (.clo F.value_isObject [] [])) [.t 13], some (12, false)⟩,⟨some 15, .un .not (.t 14), some (12, false)⟩,⟨some 16, .pick (.t 12) (.v (.bool true)) (.t 15),none⟩]
def r2 : List AO := [⟨some 17, .build [.av (.int .i64 0), .av (.str []), .av (.str []), .own 5 [], .own 1 []] [],none⟩,⟨none, .store 5 (.t 4) (.t 17),none⟩,⟨some 5, .asg (.v (.int .i64 1)),none⟩]
def r3 : List Ph := [.bag false [] [18, 20] [(0, ⟨some 18, .load 5 true (.t 2),none⟩),(1, ⟨some 19, .call .none (.v (.clo F.value_Twin [] [])) [.t 18],none⟩),(2, ⟨some 20, .load 5 true (.t 3),none⟩),(3, ⟨some 21, .call .deep (.v (.clo F.value_Twin [] [])) [.t 20],none⟩),(4, ⟨some 6, .alloc [.av (.int .i64 0), .av (.str []), .av (.str []), .own 5 [], .own 1 []],none⟩)],.one 5 ⟨none, .store 5 (.t 6) (.t 19),none⟩,.one 6 ⟨none, .store 5 (.t 3) (.t 21),none⟩]
def r4 : List AO := [⟨some 22, .fadr 4 (.t 3),none⟩,⟨some 23, .load 1 false (.t 22),none⟩,⟨some 24, .len false (.t 23),none⟩,⟨some 25, .mv (.v (.int .i64 0)),none⟩]
def r5 : List AO := [⟨some 26, .bin .lss (.t 25) (.t 24),none⟩]
def r6 : List AO := [⟨some 27, .mv (.t 25),none⟩,⟨some 28, .iadr 1 (.t 23) (.t 25),none⟩,⟨some 29, .load 1 false (.t 28),none⟩,⟨some 7, .asg (.t 27),none⟩,⟨some 8, .asg (.t 29),none⟩]
def r7 : List AO := [⟨some 30, .mv (.t 8),none⟩,⟨some 31, .fadr 3 (.t 3),none⟩,⟨some 32, .load 1 false (.t 31),none⟩,⟨some 33, .mv (.t 7),none⟩,⟨some 34, .iadr 5 (.t 32) (.t 33),none⟩,⟨some 35, .load 5 true (.t 34),none⟩,⟨some 36, .callM .deep (.v (.clo F.value_put [] [])) [.t 6, .t 30, .t 35],none⟩]
def r8 : List AO := [⟨some 37, .bin .add (.t 25) (.v (.int .i64 1)),none⟩,⟨some 25, .mv (.t 37),none⟩]
def l1 : AC := .seq (.reg r5 [3, 4, 6, 23, 24, 25, 26]) (.seq (.cond (.t 26) (.skip) (.exit 0)) (.seq (.block 1 (.seq (.reg r6 [3, 4, 6, 7, 8, 23, 24, 25]) (.reg r7 [3, 4, 6, 23, 24, 25]))) (.reg r8 [3, 4, 6, 23, 24, 25])))
def r9 : List AO := [⟨some 38, .take 5 true (.t 6),none⟩,⟨none, .store 5 (.t 4) (.t 38),none⟩,⟨some 5, .asg (.v (.int .i64 0)),none⟩]
def body : AC := .seq (.reg r0 [2, 3, 4]) (.seq (.seq (.reg r1 [2, 3, 4, 16]) (.cond (.t 16) (.seq (.reg r2 [4, 5]) (.ret)) (.skip))) (.seq (.dreg r3 [3, 4, 6]) (.seq (.seq (.reg r4 [3, 4, 6, 23, 24, 25]) (.block 0 (.loop [3, 4, 6, 23, 24, 25] l1))) (.seq (.reg r9 [4, 5]) (.ret)))))
def fn : AFun := ⟨[.val, .val], 39, [.cell 4 5 true, .tmp 5], [], body⟩
end value_Merge
namespace value_Make
def r0 : List AO := [⟨some 4, .alloc [.av (.int .i64 0), .av (.str []), .av (.str []), .own 5 [], .own 1 []],none⟩,⟨some 5, .asg (.v (.int .i64 0)),none⟩]
def r1 : List AO := [⟨some 9, .mv (.t 0),none⟩,⟨some 10, .len false (.t 9),none⟩,⟨some 11, .mv (.t 1),none⟩,⟨some 12, .len false (.t 11),none⟩,⟨some 13, .bin .neq (.t 10) (.t 12),none⟩,⟨some 14, .mv (.t 13),none⟩,⟨some 15, .mv (.t 1), some (14, false)⟩,⟨some 16, .call .deep (.v (.clo F.value_allFormed [] [])) [.t 15], some (14, false)⟩,⟨some 17, .un .not (.t 16), some (14, false)⟩,⟨some 18, .pick (.t 14) (.v (.bool true)) (.t 17),none⟩,⟨some 19, .mv (.t 18),none⟩,⟨some 20, .mv (.t 0), some (19, false)⟩,⟨some 21, .call .deep (.v (.clo F.slices_ContainsFunc_Lstring_string [] [])) [.t 20, .v (.clo F.value_Make_S1 [] [])], some (19, false)⟩,⟨some 22, .pick (.t 19) (.v (.bool true)) (.t 21),none⟩]
def r2 : List AO := [⟨some 23, .build [.av (.int .i64 0), .av (.str []), .av (.str []), .own 5 [], .own 1 []] [],none⟩,⟨none, .store 5 (.t 4) (.t 23),none⟩,⟨some 5, .asg (.v (.int .i64 1)),none⟩]
def r3 : List AO := [⟨some 24, .build [.av (.int .i64 0), .av (.str []), .av (.str []), .own 5 [], .own 1 []] [(0, 1, .v (.int .i64 6))],none⟩,⟨some 6, .alloc [.av (.int .i64 0), .av (.str []), .av (.str []), .own 5 [], .own 1 []],none⟩,⟨none, .store 5 (.t 6) (.t 24),none⟩]
def r4 : List AO := [⟨some 25, .mv (.t 0),none⟩,⟨some 26, .len false (.t 25),none⟩,⟨some 27, .mv (.v (.int .i64 0)),none⟩]
def r5 : List AO := [⟨some 28, .bin .lss (.t 27) (.t 26),none⟩]
def r6 : List AO := [⟨some 29, .mv (.t 27),none⟩,⟨some 30, .iadr 1 (.t 25) (.t 27),none⟩,⟨some 31, .load 1 false (.t 30),none⟩,⟨some 7, .asg (.t 29),none⟩,⟨some 8, .asg (.t 31),none⟩]
def r7 : List AO := [⟨some 32, .mv (.t 8),none⟩,⟨some 33, .mv (.t 1),none⟩,⟨some 34, .mv (.t 7),none⟩,⟨some 35, .iadr 5 (.t 33) (.t 34),none⟩,⟨some 36, .load 5 true (.t 35),none⟩,⟨some 37, .call .deep (.v (.clo F.value_Twin [] [])) [.t 36],none⟩,⟨some 38, .callM .deep (.v (.clo F.value_put [] [])) [.t 6, .t 32, .t 37],none⟩]
def r8 : List AO := [⟨some 39, .bin .add (.t 27) (.v (.int .i64 1)),none⟩,⟨some 27, .mv (.t 39),none⟩]
def l1 : AC := .seq (.reg r5 [1, 4, 6, 25, 26, 27, 28]) (.seq (.cond (.t 28) (.skip) (.exit 0)) (.seq (.block 1 (.seq (.reg r6 [1, 4, 6, 7, 8, 25, 26, 27]) (.reg r7 [1, 4, 6, 25, 26, 27]))) (.reg r8 [1, 4, 6, 25, 26, 27])))
def r9 : List AO := [⟨some 40, .take 5 true (.t 6),none⟩,⟨none, .store 5 (.t 4) (.t 40),none⟩,⟨some 5, .asg (.v (.int .i64 0)),none⟩]
def body : AC := .seq (.reg r0 [0, 1, 4]) (.seq (.seq (.reg r1 [0, 1, 4, 22]) (.cond (.t 22) (.seq (.reg r2 [4, 5]) (.ret)) (.skip))) (.seq (.reg r3 [0, 1, 4, 6]) (.seq (.seq (.reg r4 [1, 4, 6, 25, 26, 27]) (.block 0 (.loop [1, 4, 6, 25, 26, 27] l1))) (.seq (.reg r9 [4, 5]) (.ret)))))
def fn : AFun := ⟨[.val, .val], 41, [.cell 4 5 true, .tmp 5], [], body⟩
end value_Make
namespace value_With
def r0 : List AO := [⟨some 3, .box (.t 0),none⟩,⟨some 5, .box (.t 2),none⟩,⟨some 6, .alloc [.av (.int .i64 0), .av (.str []), .av (.str []), .own 5 [], .own 1 []],none⟩,⟨some 7, .asg (.v (.int .i64 0)),none⟩]
def r1 : List AO := [⟨some 8, .load 5 true (.t 3),none⟩,⟨some 9, .call .deep (.v (.clo F.value_isObject [] [])) [.t 8],none⟩,⟨some 10, .un .not (.t 9),none⟩,⟨some 11, .mv (.t 10),none⟩,⟨some 12, .mv (.t 1), some (11, false)⟩,⟨some 13, .call .deep (.v (.clo F.utf_Valid [] [])) [.t 12], some (11, false)⟩,⟨some 14, .un .not (.t 13), some (11, false)⟩,⟨some 15, .pick (.t 11) (.v (.bool true)) (.t 14),none⟩,⟨some 16, .mv (.t 15),none⟩,⟨some 17, .load 5 true (.t 5), some (16, false)⟩,⟨some 18, .call .deep (.v (.clo F.value_Formed [] [])) [.t 17], some (16, false)⟩,⟨some 19, .un .not (.t 18), some (16, false)⟩,⟨some 20, .pick (.t 16) (.v (.bool true)) (.t 19),none⟩]
def r2 : List AO := [⟨some 21, .build [.av (.int .i64 0), .av (.str []), .av (.str []), .own 5 [], .own 1 []] [],none⟩,⟨none, .store 5 (.t 6) (.t 21),none⟩,⟨some 7, .asg (.v (.int .i64 1)),none⟩]
def r3 : List AO := [⟨some 22, .load 5 true (.t 3),none⟩,⟨some 23, .call .none (.v (.clo F.value_Twin [] [])) [.t 22],none⟩,⟨none, .store 5 (.t 3) (.t 23),none⟩]
def r4 : List AO := [⟨some 24, .mv (.t 1),none⟩,⟨some 25, .take 5 true (.t 5),none⟩,⟨some 26, .call .none (.v (.clo F.value_Twin [] [])) [.t 25],none⟩,⟨some 27, .callM .deep (.v (.clo F.value_put [] [])) [.t 3, .t 24, .t 26],none⟩]
def r5 : List AO := [⟨some 28, .take 5 true (.t 3),none⟩,⟨none, .store 5 (.t 6) (.t 28),none⟩,⟨some 7, .asg (.v (.int .i64 0)),none⟩]
def body : AC := .seq (.reg r0 [1, 3, 5, 6]) (.seq (.seq (.reg r1 [1, 3, 5, 6, 20]) (.cond (.t 20) (.seq (.reg r2 [6, 7]) (.ret)) (.skip))) (.seq (.reg r3 [1, 3, 5, 6]) (.seq (.reg r4 [3, 6]) (.seq (.reg r5 [6, 7]) (.ret)))))
def fn : AFun := ⟨[.val, .val, .val], 29, [.cell 6 5 true, .tmp 7], [], body⟩
end value_With
namespace value_Get
def r0 : List AO := [⟨some 2, .box (.t 0),none⟩,⟨some 4, .alloc [.av (.int .i64 0), .av (.str []), .av (.str []), .own 5 [], .own 1 []],none⟩,⟨some 5, .asg (.v (.bool false)),none⟩]
def r1 : List AO := [⟨some 7, .fadr 4 (.t 2),none⟩,⟨some 8, .load 1 false (.t 7),none⟩,⟨some 9, .mv (.t 1),none⟩,⟨some 10, .call .deep (.v (.clo F.slices_Index_Lstring_string [] [])) [.t 8, .t 9],none⟩,⟨some 6, .asg (.t 10),none⟩]
def r2 : List AO := [⟨some 11, .fadr 0 (.t 2),none⟩,⟨some 12, .load 1 false (.t 11),none⟩,⟨some 13, .bin .neq (.t 12) (.v (.int .i64 6)),none⟩,⟨some 14, .mv (.t 13),none⟩,⟨some 15, .mv (.t 6), some (14, false)⟩,⟨some 16, .bin .lss (.t 15) (.v (.int .i64 0)), some (14, false)⟩,⟨some 17, .pick (.t 14) (.v (.bool true)) (.t 16),none⟩,⟨some 18, .mv (.t 17),none⟩,⟨some 19, .mv (.t 6), some (18, false)⟩,⟨some 20, .fadr 3 (.t 2), some (18, false)⟩,⟨some 21, .load 1 false (.t 20), some (18, false)⟩,⟨some 22, .len false (.t 21), some (18, false)⟩,⟨some 23, .bin .geq (.t 19) (.t 22), some (18, false)⟩,⟨some 24, .pick (.t 18) (.v (.bool true)) (.t 23),none⟩]
def r3 : List AO := [⟨some 25, .build [.av (.int .i64 0), .av (.str []), .av (.str []), .own 5 [], .own 1 []] [],none⟩,⟨none, .store 5 (.t 4) (.t 25),none⟩,⟨some 5, .asg (.v (.bool false)),none⟩]
def r4 : List AO := [⟨some 26, .fadr 3 (.t 2),none⟩,⟨some 27, .take 1 false (.t 26),none⟩,⟨some 28, .mv (.t 6),none⟩,⟨some 29, .iadr 5 (.t 27) (.t 28),none⟩,⟨some 30, .load 5 true (.t 29),none⟩,⟨some 31, .call .deep (.v (.clo F.value_Twin [] [])) [.t 30],none⟩,⟨none, .store 5 (.t 4) (.t 31),none⟩,⟨some 5, .asg (.v (.bool true)),none⟩]
def body : AC := .seq (.reg r0 [1, 2, 4]) (.seq (.reg r1 [2, 4, 6]) (.seq (.seq (.reg r2 [2, 4, 6, 24]) (.cond (.t 24) (.seq (.reg r3 [4, 5]) (.ret)) (.skip))) (.seq (.reg r4 [4, 5]) (.ret))))
def fn : AFun := ⟨[.val, .val], 32, [.cell 4 5 true, .tmp 5], [], body⟩
end value_Get
namespace value_Without
def r0 : List AO := [⟨some 2, .box (.t 0),none⟩,⟨some 4, .alloc [.av (.int .i64 0), .av (.str []), .av (.str []), .own 5 [], .own 1 []],none⟩,⟨some 5, .asg (.v (.int .i64 0)),none⟩]
def r1 : List AO := [⟨some 8, .load 5 true (.t 2),none⟩,⟨some 9, .call .deep (.v (.clo F.value_isObject [] [])) [.t 8],none⟩,⟨some 10, .un .not (.t 9),none⟩]
def r2 : List AO := [⟨some 11, .build [.av (.int .i64 0), .av (.str []), .av (.str []), .own 5 [], .own 1 []] [],none⟩,⟨none, .store 5 (.t 4) (.t 11),none⟩,⟨some 5, .asg (.v (.int .i64 1)),none⟩]
def r3 : List AO := [⟨some 12, .load 5 true (.t 2),none⟩,⟨some 13, .call .none (.v (.clo F.value_Twin [] [])) [.t 12],none⟩,⟨none, .store 5 (.t 2) (.t 13),none⟩]
def r4 : List AO := [⟨some 15, .fadr 4 (.t 2),none⟩,⟨some 16, .load 1 false (.t 15),none⟩,⟨some 17, .mv (.t 1),none⟩,⟨some 18, .call .deep (.v (.clo F.slices_BinarySearch_Lstring_string [] [])) [.t 16, .t 17],none⟩,⟨some 14, .mv (.t 18),none⟩,⟨some 19, .ext (.t 14) 0,none⟩,⟨some 20, .ext (.t 14) 1,none⟩,⟨some 6, .asg (.t 19),none⟩,⟨some 7, .asg (.t 20),none⟩]
def r5 : List AO := [⟨some 21, .mv (.t 7),none⟩]
def r6 : List AO := [⟨some 22, .fadr 4 (.t 2),none⟩,⟨some 23, .load 1 false (.t 22),none⟩,⟨some 24, .mv (.t 6),none⟩,⟨some 25, .mv (.t 6),none⟩,⟨some 26, .bin .add (.t 25) (.v (.int .i64 1)),none⟩,⟨some 27, .callM .none (.v (.clo F.slices_Delete_Lstring_string [] [])) [.t 23, .t 24, .t 26],none⟩,⟨some 28, .fadr 4 (.t 2),none⟩,⟨none, .store 1 (.t 28) (.t 27),none⟩]
def r7 : List AO := [⟨some 29, .fadr 3 (.t 2),none⟩,⟨some 30, .load 1 false (.t 29),none⟩,⟨some 31, .mv (.t 6),none⟩,⟨some 32, .mv (.t 6),none⟩,⟨some 33, .bin .add (.t 32) (.v (.int .i64 1)),none⟩,⟨some 34, .callM .none (.v (.clo F.slices_Delete_LValue_Value [] [])) [.t 30, .t 31, .t 33],none⟩,⟨some 35, .fadr 3 (.t 2),none⟩,⟨none, .store 1 (.t 35) (.t 34),none⟩]
def r8 : List AO := [⟨some 36, .take 5 true (.t 2),none⟩,⟨none, .store 5 (.t 4) (.t 36),none⟩,⟨some 5, .asg (.v (.int .i64 0)),none⟩]
def body : AC := .seq (.reg r0 [1, 2, 4]) (.seq (.seq (.reg r1 [1, 2, 4, 10]) (.cond (.t 10) (.seq (.reg r2 [4, 5]) (.ret)) (.skip))) (.seq (.reg r3 [1, 2, 4]) (.seq (.seq (.reg r4 [2, 4, 6, 7]) (.seq (.reg r5 [2, 4, 6, 21]) (.cond (.t 21) (.seq (.reg r6 [2, 4, 6]) (.reg r7 [2, 4])) (.skip)))) (.seq (.reg r8 [4, 5]) (.ret)))))
def fn : AFun := ⟨[.val, .val], 37, [.cell 4 5 true, .tmp 5], [], body⟩
end value_Without
namespace hallmarklaw03_ValueObjects
def r0 : List AO := [⟨some 2, .asg (.v (.bool false)),none⟩]
def r1 : List AO := [⟨some 4, .call .deep (.v (.clo F.hallmarklaw03_lives [] [])) [],none⟩,⟨some 5, .un .not (.t 4),none⟩]
def r2 : List AO := [⟨some 2, .asg (.v (.bool false)),none⟩]
def r3 : List AO := [⟨some 3, .asg (.v (.int .i64 0)),none⟩]
def r4 : List AO := [⟨some 6, .mv (.t 3),none⟩,⟨some 7, .mv (.t 0),none⟩,⟨some 8, .len false (.t 7),none⟩,⟨some 9, .bin .lss (.t 6) (.t 8),none⟩]
def r6 : List AO := [⟨some 12, .mv (.t 0),none⟩,⟨some 13, .mv (.t 3),none⟩,⟨some 14, .iadr 14 (.t 12) (.t 13),none⟩,⟨some 15, .load 14 true (.t 14),none⟩,⟨some 16, .call .deep (.v (.clo F.hallmarklaw03_fits [] [])) [.t 15],none⟩,⟨some 17, .mv (.t 16),none⟩,⟨some 18, .mv (.t 0), some (17, true)⟩,⟨some 19, .mv (.t 3), some (17, true)⟩,⟨some 20, .iadr 14 (.t 18) (.t 19), some (17, true)⟩,⟨some 21, .load 14 true (.t 20), some (17, true)⟩,⟨some 22, .call .deep (.v (.clo F.hallmarklaw03_right [] [])) [.t 21], some (17, true)⟩,⟨some 23, .un .not (.t 22), some (17, true)⟩,⟨some 24, .pick (.t 17) (.t 23) (.v (.bool false)),none⟩]
def r7 : List AO := [⟨some 2, .asg (.v (.bool false)),none⟩]
def r5 : List AO := [⟨some 10, .mv (.t 3),none⟩,⟨some 11, .bin .add (.t 10) (.v (.int .i64 1)),none⟩,⟨some 3, .asg (.t 11),none⟩]
def l1 : AC := .seq (.seq (.reg r4 [0, 3, 9]) (.cond (.t 9) (.skip) (.exit 0))) (.seq (.block 1 (.seq (.reg r6 [0, 3, 24]) (.cond (.t 24) (.seq (.reg r7 [2]) (.ret)) (.skip)))) (.reg r5 [0, 3]))
def r8 : List AO := [⟨some 2, .asg (.v (.bool true)),none⟩]
def body : AC := .seq (.reg r0 [0]) (.seq (.seq (.reg r1 [0, 5]) (.cond (.t 5) (.seq (.reg r2 [2]) (.ret)) (.skip))) (.seq (.seq (.reg r3 [0, 3]) (.block 0 (.loop [0, 3] l1))) (.seq (.reg r8 [2]) (.ret))))
def fn : AFun := ⟨[.val], 25, [.tmp 2], [], body⟩
end hallmarklaw03_ValueObjects
namespace hallmarklaw03_fits
def r0 : List AO := [⟨some 1, .box (.t 0),none⟩,⟨some 2, .asg (.v (.bool false)),none⟩]
def r1 : List AO := [⟨some 3, .fadr 1 (.t 1),none⟩,⟨some 4, .load 5 true (.t 3),none⟩,⟨some 5, .call .deep (.v (.clo F.hallmarklaw03_small [] [])) [.t 4],none⟩,⟨some 6, .mv (.t 5),none⟩,⟨some 7, .fadr 6 (.t 1), some (6, true)⟩,⟨some 8, .load 5 true (.t 7), some (6, true)⟩,⟨some 9, .call .deep (.v (.clo F.hallmarklaw03_small [] [])) [.t 8], some (6, true)⟩,⟨some 10, .pick (.t 6) (.t 9) (.v (.bool false)),none⟩,⟨some 11, .mv (.t 10),none⟩,⟨some 12, .fadr 13 (.t 1), some (11, true)⟩,⟨some 13, .load 1 false (.t 12), some (11, true)⟩,⟨some 14, .call .deep (.v (.clo F.hallmarklaw03_smallAll [] [])) [.t 13], some (11, true)⟩,⟨some 15, .pick (.t 11) (.t 14) (.v (.bool false)),none⟩,⟨some 16, .mv (.t 15),none⟩,⟨some 17, .fadr 12 (.t 1), some (16, true)⟩,⟨some 18, .take 1 false (.t 17), some (16, true)⟩,⟨some 19, .len false (.t 18), some (16, true)⟩,⟨some 20, .bin .leq (.t 19) (.v (.int .i64 10000)), some (16, true)⟩,⟨some 21, .pick (.t 16) (.t 20) (.v (.bool false)),none⟩,⟨some 2, .asg (.t 21),none⟩]
def body : AC := .seq (.reg r0 [1]) (.seq (.reg r1 [2]) (.ret))
def fn : AFun := ⟨[.val], 22, [.tmp 2], [], body⟩
end hallmarklaw03_fits
namespace hallmarklaw03_right
def r0 : List AO := [⟨some 1, .box (.t 0),none⟩,⟨some 2, .asg (.v (.bool false)),none⟩]
def r1 : List AO := [⟨some 10, .load 14 true (.t 1),none⟩,⟨some 11, .call .deep (.v (.clo F.hallmarklaw03_does [] [])) [.t 10],none⟩,⟨some 9, .mv (.t 11),none⟩,⟨some 12, .ext (.t 9) 0,none⟩,⟨some 13, .ext (.t 9) 1,none⟩,⟨some 14, .ext (.t 9) 2,none⟩,⟨some 3, .alloc [.av (.int .i64 0), .av (.str []), .av (.str []), .own 5 [], .own 1 []],none⟩,⟨none, .store 5 (.t 3) (.t 12),none⟩,⟨some 4, .asg (.t 13),none⟩,⟨some 5, .asg (.t 14),none⟩]
def r2 : List AO := [⟨some 16, .take 14 true (.t 1),none⟩,⟨some 17, .call .deep (.v (.clo F.hallmarklaw03_asked [] [])) [.t 16],none⟩,⟨some 15, .mv (.t 17),none⟩,⟨some 18, .ext (.t 15) 0,none⟩,⟨some 19, .ext (.t 15) 1,none⟩,⟨some 20, .ext (.t 15) 2,none⟩,⟨some 6, .alloc [.av (.int .i64 0), .av (.str []), .av (.str []), .own 5 [], .own 1 []],none⟩,⟨none, .store 5 (.t 6) (.t 18),none⟩,⟨some 7, .asg (.t 19),none⟩,⟨some 8, .asg (.t 20),none⟩]
def r3 : List AO := [⟨some 21, .mv (.t 4),none⟩,⟨some 22, .mv (.t 7),none⟩,⟨some 23, .bin .eql (.t 21) (.t 22),none⟩,⟨some 24, .mv (.t 23),none⟩,⟨some 25, .mv (.t 5), some (24, true)⟩,⟨some 26, .mv (.t 8), some (24, true)⟩,⟨some 27, .binB false (.t 25) (.t 26), some (24, true)⟩,⟨some 28, .pick (.t 24) (.t 27) (.v (.bool false)),none⟩,⟨some 29, .mv (.t 28),none⟩,⟨some 30, .take 5 true (.t 3), some (29, true)⟩,⟨some 31, .take 5 true (.t 6), some (29, true)⟩,⟨some 32, .call .deep (.v (.clo F.hallmarkref03_Like [] [])) [.t 30, .t 31], some (29, true)⟩,⟨some 33, .pick (.t 29) (.t 32) (.v (.bool false)),none⟩,⟨some 2, .asg (.t 33),none⟩]
def body : AC := .seq (.reg r0 [1]) (.seq (.reg r1 [1, 3, 4, 5]) (.seq (.reg r2 [3, 4, 5, 6, 7, 8]) (.seq (.reg r3 [2]) (.ret))))
def fn : AFun := ⟨[.val], 34, [.tmp 2], [], body⟩
end hallmarklaw03_right
namespace hallmarklaw03_asked
def r0 : List AO := [⟨some 1, .box (.t 0),none⟩,⟨some 2, .alloc [.av (.int .i64 0), .av (.str []), .av (.str []), .own 5 [], .own 1 []],none⟩,⟨some 3, .asg (.v (.int .i64 0)),none⟩,⟨some 4, .asg (.v (.bool false)),none⟩]
def r1 : List AO := [⟨some 17, .fadr 0 (.t 1),none⟩,⟨some 18, .load 1 false (.t 17),none⟩,⟨some 19, .bin .eql (.t 18) (.v (.int .i64 0)),none⟩]
def r2 : List AO := [⟨some 21, .fadr 12 (.t 1),none⟩,⟨some 22, .load 1 false (.t 21),none⟩,⟨some 23, .fadr 13 (.t 1),none⟩,⟨some 24, .take 1 false (.t 23),none⟩,⟨some 25, .call .deep (.v (.clo F.hallmarkref03_Make [] [])) [.t 22, .t 24],none⟩,⟨some 20, .mv (.t 25),none⟩,⟨some 26, .ext (.t 20) 0,none⟩,⟨some 27, .ext (.t 20) 1,none⟩,⟨some 5, .alloc [.av (.int .i64 0), .av (.str []), .av (.str []), .own 5 [], .own 1 []],none⟩,⟨none, .store 5 (.t 5) (.t 26),none⟩,⟨some 6, .asg (.t 27),none⟩]
def r3 : List AO := [⟨some 28, .take 5 true (.t 5),none⟩,⟨some 29, .mv (.t 6),none⟩,⟨none, .store 5 (.t 2) (.t 28),none⟩,⟨some 3, .asg (.t 29),none⟩,⟨some 4, .asg (.v (.bool true)),none⟩]
def r4 : List AO := [⟨some 30, .fadr 0 (.t 1),none⟩,⟨some 31, .load 1 false (.t 30),none⟩,⟨some 32, .bin .eql (.t 31) (.v (.int .i64 1)),none⟩]
def r5 : List AO := [⟨some 34, .fadr 1 (.t 1),none⟩,⟨some 35, .load 5 true (.t 34),none⟩,⟨some 36, .fadr 11 (.t 1),none⟩,⟨some 37, .load 1 false (.t 36),none⟩,⟨some 38, .call .deep (.v (.clo F.hallmarkref03_Get [] [])) [.t 35, .t 37],none⟩,⟨some 33, .mv (.t 38),none⟩,⟨some 39, .ext (.t 33) 0,none⟩,⟨some 40, .ext (.t 33) 1,none⟩,⟨some 7, .alloc [.av (.int .i64 0), .av (.str []), .av (.str []), .own 5 [], .own 1 []],none⟩,⟨none, .store 5 (.t 7) (.t 39),none⟩,⟨some 8, .asg (.t 40),none⟩]
def r6 : List AO := [⟨some 41, .take 5 true (.t 7),none⟩,⟨some 42, .mv (.t 8),none⟩,⟨none, .store 5 (.t 2) (.t 41),none⟩,⟨some 3, .asg (.v (.int .i64 0)),none⟩,⟨some 4, .asg (.t 42),none⟩]
def r7 : List AO := [⟨some 43, .fadr 0 (.t 1),none⟩,⟨some 44, .load 1 false (.t 43),none⟩,⟨some 45, .bin .eql (.t 44) (.v (.int .i64 2)),none⟩]
def r8 : List AO := [⟨some 47, .fadr 1 (.t 1),none⟩,⟨some 48, .load 5 true (.t 47),none⟩,⟨some 49, .fadr 11 (.t 1),none⟩,⟨some 50, .load 1 false (.t 49),none⟩,⟨some 51, .fadr 6 (.t 1),none⟩,⟨some 52, .take 5 true (.t 51),none⟩,⟨some 53, .call .deep (.v (.clo F.hallmarkref03_With [] [])) [.t 48, .t 50, .t 52],none⟩,⟨some 46, .mv (.t 53),none⟩,⟨some 54, .ext (.t 46) 0,none⟩,⟨some 55, .ext (.t 46) 1,none⟩,⟨some 9, .alloc [.av (.int .i64 0), .av (.str []), .av (.str []), .own 5 [], .own 1 []],none⟩,⟨none, .store 5 (.t 9) (.t 54),none⟩,⟨some 10, .asg (.t 55),none⟩]
def r9 : List AO := [⟨some 56, .take 5 true (.t 9),none⟩,⟨some 57, .mv (.t 10),none⟩,⟨none, .store 5 (.t 2) (.t 56),none⟩,⟨some 3, .asg (.t 57),none⟩,⟨some 4, .asg (.v (.bool true)),none⟩]
def r10 : List AO := [⟨some 58, .fadr 0 (.t 1),none⟩,⟨some 59, .load 1 false (.t 58),none⟩,⟨some 60, .bin .eql (.t 59) (.v (.int .i64 3)),none⟩]
def r11 : List AO := [⟨some 62, .fadr 1 (.t 1),none⟩,⟨some 63, .load 5 true (.t 62),none⟩,⟨some 64, .fadr 11 (.t 1),none⟩,⟨some 65, .load 1 false (.t 64),none⟩,⟨some 66, .call .deep (.v (.clo F.hallmarkref03_Without [] [])) [.t 63, .t 65],none⟩,⟨some 61, .mv (.t 66),none⟩,⟨some 67, .ext (.t 61) 0,none⟩,⟨some 68, .ext (.t 61) 1,none⟩,⟨some 11, .alloc [.av (.int .i64 0), .av (.str []), .av (.str []), .own 5 [], .own 1 []],none⟩,⟨none, .store 5 (.t 11) (.t 67),none⟩,⟨some 12, .asg (.t 68),none⟩]
def r12 : List AO := [⟨some 69, .take 5 true (.t 11),none⟩,⟨some 70, .mv (.t 12),none⟩,⟨none, .store 5 (.t 2) (.t 69),none⟩,⟨some 3, .asg (.t 70),none⟩,⟨some 4, .asg (.v (.bool true)),none⟩]
def r13 : List AO := [⟨some 71, .fadr 0 (.t 1),none⟩,⟨some 72, .load 1 false (.t 71),none⟩,⟨some 73, .bin .eql (.t 72) (.v (.int .i64 4)),none⟩]
def r14 : List AO := [⟨some 75, .fadr 1 (.t 1),none⟩,⟨some 76, .load 5 true (.t 75),none⟩,⟨some 77, .fadr 6 (.t 1),none⟩,⟨some 78, .take 5 true (.t 77),none⟩,⟨some 79, .call .deep (.v (.clo F.hallmarkref03_Merge [] [])) [.t 76, .t 78],none⟩,⟨some 74, .mv (.t 79),none⟩,⟨some 80, .ext (.t 74) 0,none⟩,⟨some 81, .ext (.t 74) 1,none⟩,⟨some 13, .alloc [.av (.int .i64 0), .av (.str []), .av (.str []), .own 5 [], .own 1 []],none⟩,⟨none, .store 5 (.t 13) (.t 80),none⟩,⟨some 14, .asg (.t 81),none⟩]
def r15 : List AO := [⟨some 82, .take 5 true (.t 13),none⟩,⟨some 83, .mv (.t 14),none⟩,⟨none, .store 5 (.t 2) (.t 82),none⟩,⟨some 3, .asg (.t 83),none⟩,⟨some 4, .asg (.v (.bool true)),none⟩]
def r16 : List AO := [⟨some 84, .fadr 0 (.t 1),none⟩,⟨some 85, .load 1 false (.t 84),none⟩,⟨some 86, .bin .eql (.t 85) (.v (.int .i64 5)),none⟩]
def r17 : List AO := [⟨some 88, .fadr 1 (.t 1),none⟩,⟨some 89, .load 5 true (.t 88),none⟩,⟨some 90, .fadr 6 (.t 1),none⟩,⟨some 91, .take 5 true (.t 90),none⟩,⟨some 92, .call .deep (.v (.clo F.hallmarkref03_Deep [] [])) [.t 89, .t 91],none⟩,⟨some 87, .mv (.t 92),none⟩,⟨some 93, .ext (.t 87) 0,none⟩,⟨some 94, .ext (.t 87) 1,none⟩,⟨some 15, .alloc [.av (.int .i64 0), .av (.str []), .av (.str []), .own 5 [], .own 1 []],none⟩,⟨none, .store 5 (.t 15) (.t 93),none⟩,⟨some 16, .asg (.t 94),none⟩]
def r18 : List AO := [⟨some 95, .take 5 true (.t 15),none⟩,⟨some 96, .mv (.t 16),none⟩,⟨none, .store 5 (.t 2) (.t 95),none⟩,⟨some 3, .asg (.t 96),none⟩,⟨some 4, .asg (.v (.bool true)),none⟩]
def r19 : List AO := [⟨some 97, .fadr 1 (.t 1),none⟩,⟨some 98, .take 5 true (.t 97),none⟩,⟨some 99, .call .deep (.v (.clo F.hallmarkref03_Twin [] [])) [.t 98],none⟩,⟨none, .store 5 (.t 2) (.t 99),none⟩,⟨some 3, .asg (.v (.int .i64 0)),none⟩,⟨some 4, .asg (.v (.bool true)),none⟩]
def body : AC := .seq (.reg r0 [1, 2]) (.seq (.seq (.reg r1 [1, 2, 19]) (.cond (.t 19) (.seq (.reg r2 [2, 5, 6]) (.seq (.reg r3 [2, 3, 4]) (.ret))) (.skip))) (.seq (.seq (.reg r4 [1, 2, 32]) (.cond (.t 32) (.seq (.reg r5 [2, 7, 8]) (.seq (.reg r6 [2, 3, 4]) (.ret))) (.skip))) (.seq (.seq (.reg r7 [1, 2, 45]) (.cond (.t 45) (.seq (.reg r8 [2, 9, 10]) (.seq (.reg r9 [2, 3, 4]) (.ret))) (.skip))) (.seq (.seq (.reg r10 [1, 2, 60]) (.cond (.t 60) (.seq (.reg r11 [2, 11, 12]) (.seq (.reg r12 [2, 3, 4]) (.ret))) (.skip))) (.seq (.seq (.reg r13 [1, 2, 73]) (.cond (.t 73) (.seq (.reg r14 [2, 13, 14]) (.seq (.reg r15 [2, 3, 4]) (.ret))) (.skip))) (.seq (.seq (.reg r16 [1, 2, 86]) (.cond (.t 86) (.seq (.reg r17 [2, 15, 16]) (.seq (.reg r18 [2, 3, 4]) (.ret))) (.skip))) (.seq (.reg r19 [2, 3, 4]) (.ret))))))))
def fn : AFun := ⟨[.val], 100, [.cell 2 5 true, .tmp 3, .tmp 4], [], body⟩
end hallmarklaw03_asked
namespace hallmarklaw03_does
def r0 : List AO := [⟨some 1, .box (.t 0),none⟩,⟨some 2, .alloc [.av (.int .i64 0), .av (.str []), .av (.str []), .own 5 [], .own 1 []],none⟩,⟨some 3, .asg (.v (.int .i64 0)),none⟩,⟨some 4, .asg (.v (.bool false)),none⟩]
def r1 : List AO := [⟨some 17, .fadr 0 (.t 1),none⟩,⟨some 18, .load 1 false (.t 17),none⟩,⟨some 19, .bin .eql (.t 18) (.v (.int .i64 0)),none⟩]
def r2 : List AO := [⟨some 21, .fadr 12 (.t 1),none⟩,⟨some 22, .load 1 false (.t 21),none⟩,⟨some 23, .fadr 13 (.t 1),none⟩,⟨some 24, .take 1 false (.t 23),none⟩,⟨some 25, .call .deep (.v (.clo F.value_Make [] [])) [.t 22, .t 24],none⟩,⟨some 20, .mv (.t 25),none⟩,⟨some 26, .ext (.t 20) 0,none⟩,⟨some 27, .ext (.t 20) 1,none⟩,⟨some 5, .alloc [.av (.int .i64 0), .av (.str []), .av (.str []), .own 5 [], .own 1 []],none⟩,⟨none, .store 5 (.t 5) (.t 26),none⟩,⟨some 6, .asg (.t 27),none⟩]
def r3 : List AO := [⟨some 28, .take 5 true (.t 5),none⟩,⟨some 29, .mv (.t 6),none⟩,⟨none, .store 5 (.t 2) (.t 28),none⟩,⟨some 3, .asg (.t 29),none⟩,⟨some 4, .asg (.v (.bool true)),none⟩]
def r4 : List AO := [⟨some 30, .fadr 0 (.t 1),none⟩,⟨some 31, .load 1 false (.t 30),none⟩,⟨some 32, .bin .eql (.t 31) (.v (.int .i64 1)),none⟩]
def r5 : List AO := [⟨some 34, .fadr 1 (.t 1),none⟩,⟨some 35, .load 5 true (.t 34),none⟩,⟨some 36, .fadr 11 (.t 1),none⟩,⟨some 37, .load 1 false (.t 36),none⟩,⟨some 38, .call .deep (.v (.clo F.value_Get [] [])) [.t 35, .t 37],none⟩,⟨some 33, .mv (.t 38),none⟩,⟨some 39, .ext (.t 33) 0,none⟩,⟨some 40, .ext (.t 33) 1,none⟩,⟨some 7, .alloc [.av (.int .i64 0), .av (.str []), .av (.str []), .own 5 [], .own 1 []],none⟩,⟨none, .store 5 (.t 7) (.t 39),none⟩,⟨some 8, .asg (.t 40),none⟩]
def r6 : List AO := [⟨some 41, .take 5 true (.t 7),none⟩,⟨some 42, .mv (.t 8),none⟩,⟨none, .store 5 (.t 2) (.t 41),none⟩,⟨some 3, .asg (.v (.int .i64 0)),none⟩,⟨some 4, .asg (.t 42),none⟩]
def r7 : List AO := [⟨some 43, .fadr 0 (.t 1),none⟩,⟨some 44, .load 1 false (.t 43),none⟩,⟨some 45, .bin .eql (.t 44) (.v (.int .i64 2)),none⟩]
def r8 : List AO := [⟨some 47, .fadr 1 (.t 1),none⟩,⟨some 48, .load 5 true (.t 47),none⟩,⟨some 49, .fadr 11 (.t 1),none⟩,⟨some 50, .load 1 false (.t 49),none⟩,⟨some 51, .fadr 6 (.t 1),none⟩,⟨some 52, .take 5 true (.t 51),none⟩,⟨some 53, .call .deep (.v (.clo F.value_With [] [])) [.t 48, .t 50, .t 52],none⟩,⟨some 46, .mv (.t 53),none⟩,⟨some 54, .ext (.t 46) 0,none⟩,⟨some 55, .ext (.t 46) 1,none⟩,⟨some 9, .alloc [.av (.int .i64 0), .av (.str []), .av (.str []), .own 5 [], .own 1 []],none⟩,⟨none, .store 5 (.t 9) (.t 54),none⟩,⟨some 10, .asg (.t 55),none⟩]
def r9 : List AO := [⟨some 56, .take 5 true (.t 9),none⟩,⟨some 57, .mv (.t 10),none⟩,⟨none, .store 5 (.t 2) (.t 56),none⟩,⟨some 3, .asg (.t 57),none⟩,⟨some 4, .asg (.v (.bool true)),none⟩]
def r10 : List AO := [⟨some 58, .fadr 0 (.t 1),none⟩,⟨some 59, .load 1 false (.t 58),none⟩,⟨some 60, .bin .eql (.t 59) (.v (.int .i64 3)),none⟩]
def r11 : List AO := [⟨some 62, .fadr 1 (.t 1),none⟩,⟨some 63, .load 5 true (.t 62),none⟩,⟨some 64, .fadr 11 (.t 1),none⟩,⟨some 65, .load 1 false (.t 64),none⟩,⟨some 66, .call .deep (.v (.clo F.value_Without [] [])) [.t 63, .t 65],none⟩,⟨some 61, .mv (.t 66),none⟩,⟨some 67, .ext (.t 61) 0,none⟩,⟨some 68, .ext (.t 61) 1,none⟩,⟨some 11, .alloc [.av (.int .i64 0), .av (.str []), .av (.str []), .own 5 [], .own 1 []],none⟩,⟨none, .store 5 (.t 11) (.t 67),none⟩,⟨some 12, .asg (.t 68),none⟩]
def r12 : List AO := [⟨some 69, .take 5 true (.t 11),none⟩,⟨some 70, .mv (.t 12),none⟩,⟨none, .store 5 (.t 2) (.t 69),none⟩,⟨some 3, .asg (.t 70),none⟩,⟨some 4, .asg (.v (.bool true)),none⟩]
def r13 : List AO := [⟨some 71, .fadr 0 (.t 1),none⟩,⟨some 72, .load 1 false (.t 71),none⟩,⟨some 73, .bin .eql (.t 72) (.v (.int .i64 4)),none⟩]
def r14 : List AO := [⟨some 75, .fadr 1 (.t 1),none⟩,⟨some 76, .load 5 true (.t 75),none⟩,⟨some 77, .fadr 6 (.t 1),none⟩,⟨some 78, .take 5 true (.t 77),none⟩,⟨some 79, .call .deep (.v (.clo F.value_Merge [] [])) [.t 76, .t 78],none⟩,⟨some 74, .mv (.t 79),none⟩,⟨some 80, .ext (.t 74) 0,none⟩,⟨some 81, .ext (.t 74) 1,none⟩,⟨some 13, .alloc [.av (.int .i64 0), .av (.str []), .av (.str []), .own 5 [], .own 1 []],none⟩,⟨none, .store 5 (.t 13) (.t 80),none⟩,⟨some 14, .asg (.t 81),none⟩]
def r15 : List AO := [⟨some 82, .take 5 true (.t 13),none⟩,⟨some 83, .mv (.t 14),none⟩,⟨none, .store 5 (.t 2) (.t 82),none⟩,⟨some 3, .asg (.t 83),none⟩,⟨some 4, .asg (.v (.bool true)),none⟩]
def r16 : List AO := [⟨some 84, .fadr 0 (.t 1),none⟩,⟨some 85, .load 1 false (.t 84),none⟩,⟨some 86, .bin .eql (.t 85) (.v (.int .i64 5)),none⟩]
def r17 : List AO := [⟨some 88, .fadr 1 (.t 1),none⟩,⟨some 89, .load 5 true (.t 88),none⟩,⟨some 90, .fadr 6 (.t 1),none⟩,⟨some 91, .take 5 true (.t 90),none⟩,⟨some 92, .call .deep (.v (.clo F.value_Deep [] [])) [.t 89, .t 91],none⟩,⟨some 87, .mv (.t 92),none⟩,⟨some 93, .ext (.t 87) 0,none⟩,⟨some 94, .ext (.t 87) 1,none⟩,⟨some 15, .alloc [.av (.int .i64 0), .av (.str []), .av (.str []), .own 5 [], .own 1 []],none⟩,⟨none, .store 5 (.t 15) (.t 93),none⟩,⟨some 16, .asg (.t 94),none⟩]
def r18 : List AO := [⟨some 95, .take 5 true (.t 15),none⟩,⟨some 96, .mv (.t 16),none⟩,⟨none, .store 5 (.t 2) (.t 95),none⟩,⟨some 3, .asg (.t 96),none⟩,⟨some 4, .asg (.v (.bool true)),none⟩]
def r19 : List AO := [⟨some 97, .fadr 1 (.t 1),none⟩,⟨some 98, .take 5 true (.t 97),none⟩,⟨some 99, .call .deep (.v (.clo F.value_Twin [] [])) [.t 98],none⟩,⟨none, .store 5 (.t 2) (.t 99),none⟩,⟨some 3, .asg (.v (.int .i64 0)),none⟩,⟨some 4, .asg (.v (.bool true)),none⟩]
def body : AC := .seq (.reg r0 [1, 2]) (.seq (.seq (.reg r1 [1, 2, 19]) (.cond (.t 19) (.seq (.reg r2 [2, 5, 6]) (.seq (.reg r3 [2, 3, 4]) (.ret))) (.skip))) (.seq (.seq (.reg r4 [1, 2, 32]) (.cond (.t 32) (.seq (.reg r5 [2, 7, 8]) (.seq (.reg r6 [2, 3, 4]) (.ret))) (.skip))) (.seq (.seq (.reg r7 [1, 2, 45]) (.cond (.t 45) (.seq (.reg r8 [2, 9, 10]) (.seq (.reg r9 [2, 3, 4]) (.ret))) (.skip))) (.seq (.seq (.reg r10 [1, 2, 60]) (.cond (.t 60) (.seq (.reg r11 [2, 11, 12]) (.seq (.reg r12 [2, 3, 4]) (.ret))) (.skip))) (.seq (.seq (.reg r13 [1, 2, 73]) (.cond (.t 73) (.seq (.reg r14 [2, 13, 14]) (.seq (.reg r15 [2, 3, 4]) (.ret))) (.skip))) (.seq (.seq (.reg r16 [1, 2, 86]) (.cond (.t 86) (.seq (.reg r17 [2, 15, 16]) (.seq (.reg r18 [2, 3, 4]) (.ret))) (.skip))) (.seq (.reg r19 [2, 3, 4]) (.ret))))))))
def fn : AFun := ⟨[.val], 100, [.cell 2 5 true, .tmp 3, .tmp 4], [], body⟩
end hallmarklaw03_does
namespace value_empty
def r0 : List AO := [⟨some 5, .box (.t 0),none⟩,⟨some 10, .asg (.v (.bool false)),none⟩]
def r1 : List AO := [⟨some 11, .mv (.t 1),none⟩,⟨some 12, .mv (.t 11),none⟩,⟨some 13, .fadr 1 (.t 5), some (12, false)⟩,⟨some 14, .load 1 false (.t 13), some (12, false)⟩,⟨some 15, .bin .eql (.t 14) (.v (.str [])), some (12, false)⟩,⟨some 16, .pick (.t 12) (.v (.bool true)) (.t 15),none⟩,⟨some 17, .mv (.t 16),none⟩,⟨some 18, .mv (.t 2), some (17, true)⟩,⟨some 19, .mv (.t 18), some (17, true)⟩,⟨some 20, .fadr 2 (.t 5), some (19, false)⟩,⟨some 21, .load 1 false (.t 20), some (19, false)⟩,⟨some 22, .bin .eql (.t 21) (.v (.str [])), some (19, false)⟩,⟨some 23, .pick (.t 19) (.v (.bool true)) (.t 22), some (17, true)⟩,⟨some 24, .pick (.t 17) (.t 23) (.v (.bool false)),none⟩,⟨some 25, .mv (.t 24),none⟩,⟨some 26, .mv (.t 3), some (25, true)⟩,⟨some 27, .mv (.t 26), some (25, true)⟩,⟨some 28, .fadr 3 (.t 5), some (27, false)⟩,⟨some 29, .load 1 false (.t 28), some (27, false)⟩,⟨some 30, .len false (.t 29), some (27, false)⟩,⟨some 31, .bin .eql (.t 30) (.v (.int .i64 0)), some (27, false)⟩,⟨some 32, .pick (.t 27) (.v (.bool true)) (.t 31), some (25, true)⟩,⟨some 33, .pick (.t 25) (.t 32) (.v (.bool false)),none⟩,⟨some 34, .mv (.t 33),none⟩,⟨some 35, .mv (.t 4), some (34, true)⟩,⟨some 36, .mv (.t 35), some (34, true)⟩,⟨some 37, .fadr 4 (.t 5), some (36, false)⟩,⟨some 38, .take 1 false (.t 37), some (36, false)⟩,⟨some 39, .len false (.t 38), some (36, false)⟩,⟨some 40, .bin .eql (.t 39) (.v (.int .i64 0)), some (36, false)⟩,⟨some 41, .pick (.t 36) (.v (.bool true)) (.t 40), some (34, true)⟩,⟨some 42, .pick (.t 34) (.t 41) (.v (.bool false)),none⟩,⟨some 10, .asg (.t 42),none⟩]
def body : AC := .seq (.reg r0 [1, 2, 3, 4, 5]) (.seq (.reg r1 [10]) (.ret))
def fn : AFun := ⟨[.val, .val, .val, .val, .val], 43, [.tmp 10], [], body⟩
end value_empty
namespace utf_Valid
def r0 : List AO := [⟨some 2, .asg (.v (.bool false)),none⟩]
def r1 : List AO := [⟨some 3, .mv (.t 0),none⟩,⟨some 4, .call .deep (.v (.clo F.unicode_utf8_ValidString [] [])) [.t 3],none⟩,⟨some 2, .asg (.t 4),none⟩]
def body : AC := .seq (.reg r0 [0]) (.seq (.reg r1 [2]) (.ret))
def fn : AFun := ⟨[.val], 5, [.tmp 2], [], body⟩
end utf_Valid
namespace value_allFormed
def r0 : List AO := [⟨some 2, .asg (.v (.bool false)),none⟩]
def r1 : List AO := [⟨some 3, .mv (.t 0),none⟩,⟨some 4, .call .deep (.v (.clo F.slices_ContainsFunc_LValue_Value [] [])) [.t 3, .v (.clo F.value_allFormed_S1 [] [])],none⟩,⟨some 5, .un .not (.t 4),none⟩,⟨some 2, .asg (.t 5),none⟩]
def body : AC := .seq (.reg r0 [0]) (.seq (.reg r1 [2]) (.ret))
def fn : AFun := ⟨[.val], 6, [.tmp 2], [], body⟩
end value_allFormed
namespace value_rise
def r0 : List AO := [⟨some 2, .asg (.v (.bool false)),none⟩]
def r1 : List AO := [⟨some 5, .mv (.t 0),none⟩,⟨some 6, .len false (.t 5),none⟩,⟨some 7, .mv (.v (.int .i64 0)),none⟩]
def r2 : List AO := [⟨some 8, .bin .lss (.t 7) (.t 6),none⟩]
def r3 : List AO := [⟨some 9, .mv (.t 7),none⟩,⟨some 10, .iadr 1 (.t 5) (.t 7),none⟩,⟨some 11, .load 1 false (.t 10),none⟩,⟨some 3, .asg (.t 9),none⟩,⟨some 4, .asg (.t 11),none⟩]
def r4 : List AO := [⟨some 12, .mv (.t 4),none⟩,⟨some 13, .call .deep (.v (.clo F.utf_Valid [] [])) [.t 12],none⟩,⟨some 14, .un .not (.t 13),none⟩,⟨some 15, .mv (.t 14),none⟩,⟨some 16, .mv (.t 3), some (15, false)⟩,⟨some 17, .bin .gtr (.t 16) (.v (.int .i64 0)), some (15, false)⟩,⟨some 18, .mv (.t 17), some (15, false)⟩,⟨some 19, .mv (.t 0), some (18, true)⟩,⟨some 20, .mv (.t 3), some (18, true)⟩,⟨some 21, .bin .sub (.t 20) (.v (.int .i64 1)), some (18, true)⟩,⟨some 22, .iadr 1 (.t 19) (.t 21), some (18, true)⟩,⟨some 23, .load 1 false (.t 22), some (18, true)⟩,⟨some 24, .mv (.t 4), some (18, true)⟩,⟨some 25, .bin .geq (.t 23) (.t 24), some (18, true)⟩,⟨some 26, .pick (.t 18) (.t 25) (.v (.bool false)), some (15, false)⟩,⟨some 27, .pick (.t 15) (.v (.bool true)) (.t 26),none⟩]
def r5 : List AO := [⟨some 2, .asg (.v (.bool false)),none⟩]
def r6 : List AO := [⟨some 28, .bin .add (.t 7) (.v (.int .i64 1)),none⟩,⟨some 7, .mv (.t 28),none⟩]
def l1 : AC := .seq (.reg r2 [0, 5, 6, 7, 8]) (.seq (.cond (.t 8) (.skip) (.exit 0)) (.seq (.block 1 (.seq (.reg r3 [0, 3, 4, 5, 6, 7]) (.seq (.reg r4 [0, 5, 6, 7, 27]) (.cond (.t 27) (.seq (.reg r5 [2]) (.ret)) (.skip))))) (.reg r6 [0, 5, 6, 7])))
def r7 : List AO := [⟨some 2, .asg (.v (.bool true)),none⟩]
def body : AC := .seq (.reg r0 [0]) (.seq (.seq (.reg r1 [0, 5, 6, 7]) (.block 0 (.loop [0, 5, 6, 7] l1))) (.seq (.reg r7 [2]) (.ret)))
def fn : AFun := ⟨[.val], 29, [.tmp 2], [], body⟩
end value_rise
namespace value_isObject
def r0 : List AO := [⟨some 1, .box (.t 0),none⟩,⟨some 2, .asg (.v (.bool false)),none⟩]
def r1 : List AO := [⟨some 3, .fadr 0 (.t 1),none⟩,⟨some 4, .load 1 false (.t 3),none⟩,⟨some 5, .bin .eql (.t 4) (.v (.int .i64 6)),none⟩,⟨some 6, .mv (.t 5),none⟩,⟨some 7, .take 5 true (.t 1), some (6, true)⟩,⟨some 8, .call .deep (.v (.clo F.value_Formed [] [])) [.t 7], some (6, true)⟩,⟨some 9, .pick (.t 6) (.t 8) (.v (.bool false)),none⟩,⟨some 2, .asg (.t 9),none⟩]
def body : AC := .seq (.reg r0 [1]) (.seq (.reg r1 [2]) (.ret))
def fn : AFun := ⟨[.val], 10, [.tmp 2], [], body⟩
end value_isObject
namespace value_put
def r0 : List AO := [⟨some 5, .box (.t 2),none⟩]
def r1 : List AO := [⟨some 9, .mv (.t 0),none⟩,⟨some 10, .nilc (.t 9),none⟩,⟨some 11, .fadr 4 (.t 10),none⟩,⟨some 12, .load 1 false (.t 11),none⟩,⟨some 13, .mv (.t 1),none⟩,⟨some 14, .call .deep (.v (.clo F.slices_BinarySearch_Lstring_string [] [])) [.t 12, .t 13],none⟩,⟨some 8, .mv (.t 14),none⟩,⟨some 15, .ext (.t 8) 0,none⟩,⟨some 16, .ext (.t 8) 1,none⟩,⟨some 6, .asg (.t 15),none⟩,⟨some 7, .asg (.t 16),none⟩]
def r2 : List AO := [⟨some 17, .mv (.t 7),none⟩]
def r3 : List Ph := [.bag false [] [0, 6] [(0, ⟨some 18, .mv (.t 0),none⟩),(1, ⟨some 19, .nilc (.t 18),none⟩),(2, ⟨some 20, .fadr 3 (.t 19),none⟩),(3, ⟨some 21, .load 1 false (.t 20),none⟩),(4, ⟨some 22, .mv (.t 6),none⟩),(5, ⟨some 23, .load 5 true (.t 5),none⟩),(6, ⟨some 24, .iadr 5 (.t 21) (.t 22),none⟩)],.one 7 ⟨none, .store 5 (.t 24) (.t 23),none⟩]
def r4 : List AO := [⟨some 25, .mv (.t 0),none⟩,⟨some 26, .mv (.t 0),none⟩,⟨some 27, .nilc (.t 26),none⟩,⟨some 28, .fadr 4 (.t 27),none⟩,⟨some 29, .load 1 false (.t 28),none⟩,⟨some 30, .mv (.t 6),none⟩,⟨some 31, .mv (.t 1),none⟩,⟨some 32, .buildS 1 1 [.av (.str [])] [(0, 1, .t 31)],none⟩,⟨some 33, .callM .none (.v (.clo F.slices_Insert_Lstring_string [] [])) [.t 29, .t 30, .t 32],none⟩,⟨some 34, .nilc (.t 25),none⟩,⟨some 35, .fadr 4 (.t 34),none⟩,⟨none, .store 1 (.t 35) (.t 33),none⟩]
def r5 : List Ph := [.bag false [0] [6, 42] [(0, ⟨some 36, .mv (.t 0),none⟩),(1, ⟨some 37, .mv (.t 0),none⟩),(2, ⟨some 38, .nilc (.t 37),none⟩),(3, ⟨some 39, .fadr 3 (.t 38),none⟩),(4, ⟨some 40, .load 1 false (.t 39),none⟩),(5, ⟨some 41, .mv (.t 6),none⟩),(6, ⟨some 42, .load 5 true (.t 5),none⟩),(7, ⟨some 43, .buildS 1 5 [.av (.int .i64 0), .av (.str []), .av (.str []), .own 5 [], .own 1 []] [(0, 5, .t 42)],none⟩)],.one 8 ⟨some 44, .callM .none (.v (.clo F.slices_Insert_LValue_Value [] [])) [.t 40, .t 41, .t 43],none⟩,.bag false [] [] [(9, ⟨some 45, .nilc (.t 36),none⟩),(10, ⟨some 46, .fadr 3 (.t 45),none⟩)],.one 11 ⟨none, .store 1 (.t 46) (.t 44),none⟩]
def body : AC := .seq (.reg r0 [0, 1, 5]) (.seq (.reg r1 [0, 1, 5, 6, 7]) (.seq (.seq (.reg r2 [0, 1, 5, 6, 17]) (.cond (.t 17) (.seq (.dreg r3 [0]) (.ret)) (.skip))) (.seq (.reg r4 [0, 5, 6]) (.dreg r5 [0]))))
def fn : AFun := ⟨[.io 5, .val, .val], 47, [], [], body⟩
end value_put
namespace slices_ContainsFunc_Lstring_string
def r0 : List AO := [⟨some 4, .asg (.v (.bool false)),none⟩]
def r1 : List AO := [⟨some 5, .mv (.t 0),none⟩,⟨some 6, .mv (.t 1),none⟩,⟨some 7, .call .deep (.v (.clo F.slices_IndexFunc_Lstring_string [] [])) [.t 5, .t 6],none⟩,⟨some 8, .bin .geq (.t 7) (.v (.int .i64 0)),none⟩,⟨some 4, .asg (.t 8),none⟩]
def body : AC := .seq (.reg r0 [0, 1]) (.seq (.reg r1 [4]) (.ret))
def fn : AFun := ⟨[.val, .val], 9, [.tmp 4], [], body⟩
end slices_ContainsFunc_Lstring_string
namespace value_Make_S1
def r0 : List AO := [⟨some 2, .asg (.v (.bool false)),none⟩]
def r1 : List AO := [⟨some 3, .mv (.t 0),none⟩,⟨some 4, .call .deep (.v (.clo F.utf_Valid [] [])) [.t 3],none⟩,⟨some 5, .un .not (.t 4),none⟩,⟨some 2, .asg (.t 5),none⟩]
def body : AC := .seq (.reg r0 [0]) (.seq (.reg r1 [2]) (.ret))
def fn : AFun := ⟨[.val], 6, [.tmp 2], [], body⟩
end value_Make_S1
namespace slices_Index_Lstring_string
def r0 : List AO := [⟨some 4, .asg (.v (.int .i64 0)),none⟩]
def r1 : List AO := [⟨some 6, .mv (.t 0),none⟩,⟨some 7, .len false (.t 6),none⟩,⟨some 8, .mv (.v (.int .i64 0)),none⟩]
def r2 : List AO := [⟨some 9, .bin .lss (.t 8) (.t 7),none⟩]
def r3 : List AO := [⟨some 10, .mv (.t 8),none⟩,⟨some 5, .asg (.t 10),none⟩]
def r4 : List AO := [⟨some 11, .mv (.t 1),none⟩,⟨some 12, .mv (.t 0),none⟩,⟨some 13, .mv (.t 5),none⟩,⟨some 14, .iadr 1 (.t 12) (.t 13),none⟩,⟨some 15, .load 1 false (.t 14),none⟩,⟨some 16, .bin .eql (.t 11) (.t 15),none⟩]
def r5 : List AO := [⟨some 17, .mv (.t 5),none⟩,⟨some 4, .asg (.t 17),none⟩]
def r6 : List AO := [⟨some 18, .bin .add (.t 8) (.v (.int .i64 1)),none⟩,⟨some 8, .mv (.t 18),none⟩]
def l1 : AC := .seq (.reg r2 [0, 1, 7, 8, 9]) (.seq (.cond (.t 9) (.skip) (.exit 0)) (.seq (.block 1 (.seq (.reg r3 [0, 1, 5, 7, 8]) (.seq (.reg r4 [0, 1, 5, 7, 8, 16]) (.cond (.t 16) (.seq (.reg r5 [4]) (.ret)) (.skip))))) (.reg r6 [0, 1, 7, 8])))
def r7 : List AO := [⟨some 4, .asg (.v (.int .i64 (-1))),none⟩]
def body : AC := .seq (.reg r0 [0, 1]) (.seq (.seq (.reg r1 [0, 1, 7, 8]) (.block 0 (.loop [0, 1, 7, 8] l1))) (.seq (.reg r7 [4]) (.ret)))
def fn : AFun := ⟨[.val, .val], 19, [.tmp 4], [], body⟩
end slices_Index_Lstring_string
namespace slices_BinarySearch_Lstring_string
def r0 : List AO := [⟨some 4, .asg (.v (.int .i64 0)),none⟩,⟨some 5, .asg (.v (.bool false)),none⟩]
def r1 : List AO := [⟨some 10, .mv (.t 0),none⟩,⟨some 11, .len false (.t 10),none⟩,⟨some 6, .asg (.t 11),none⟩]
def r2 : List AO := [⟨some 12, .mv (.t 6),none⟩,⟨some 7, .asg (.v (.int .i64 0)),none⟩,⟨some 8, .asg (.t 12),none⟩]
def r3 : List AO := [⟨some 13, .mv (.t 7),none⟩,⟨some 14, .mv (.t 8),none⟩,⟨some 15, .bin .lss (.t 13) (.t 14),none⟩]
def r4 : List AO := [⟨some 16, .mv (.t 7),none⟩,⟨some 17, .mv (.t 8),none⟩,⟨some 18, .bin .add (.t 16) (.t 17),none⟩,⟨some 19, .conv (.int .u64) (.t 18),none⟩,⟨some 20, .bin .shr (.t 19) (.v (.int .u64 1)),none⟩,⟨some 21, .conv (.int .i64) (.t 20),none⟩,⟨some 9, .asg (.t 21),none⟩]
def r5 : List AO := [⟨some 22, .mv (.t 0),none⟩,⟨some 23, .mv (.t 9),none⟩,⟨some 24, .iadr 1 (.t 22) (.t 23),none⟩,⟨some 25, .load 1 false (.t 24),none⟩,⟨some 26, .mv (.t 1),none⟩,⟨some 27, .call .deep (.v (.clo F.cmp_Less_string [] [])) [.t 25, .t 26],none⟩]
def r6 : List AO := [⟨some 28, .mv (.t 9),none⟩,⟨some 29, .bin .add (.t 28) (.v (.int .i64 1)),none⟩,⟨some 7, .asg (.t 29),none⟩]
def r7 : List AO := [⟨some 30, .mv (.t 9),none⟩,⟨some 8, .asg (.t 30),none⟩]
def l1 : AC := .seq (.seq (.reg r3 [0, 1, 6, 7, 8, 15]) (.cond (.t 15) (.skip) (.exit 0))) (.block 1 (.seq (.reg r4 [0, 1, 6, 7, 8, 9]) (.seq (.reg r5 [0, 1, 6, 7, 8, 9, 27]) (.cond (.t 27) (.reg r6 [0, 1, 6, 7, 8]) (.reg r7 [0, 1, 6, 7, 8])))))
def r8 : List AO := [⟨some 31, .mv (.t 7),none⟩,⟨some 32, .mv (.t 7),none⟩,⟨some 33, .mv (.t 6),none⟩,⟨some 34, .bin .lss (.t 32) (.t 33),none⟩,⟨some 35, .mv (.t 34),none⟩,⟨some 36, .mv (.t 0), some (35, true)⟩,⟨some 37, .mv (.t 7), some (35, true)⟩,⟨some 38, .iadr 1 (.t 36) (.t 37), some (35, true)⟩,⟨some 39, .load 1 false (.t 38), some (35, true)⟩,⟨some 40, .mv (.t 1), some (35, true)⟩,⟨some 41, .bin .eql (.t 39) (.t 40), some (35, true)⟩,⟨some 42, .mv (.t 41), some (35, true)⟩,⟨some 43, .mv (.t 0), some (42, false)⟩,⟨some 44, .mv (.t 7), some (42, false)⟩,⟨some 45, .iadr 1 (.t 43) (.t 44), some (42, false)⟩,⟨some 46, .load 1 false (.t 45), some (42, false)⟩,⟨some 47, .call .deep (.v (.clo F.slices_isNaN_string [] [])) [.t 46], some (42, false)⟩,⟨some 48, .mv (.t 47), some (42, false)⟩,⟨some 49, .mv (.t 1), some (48, true)⟩,⟨some 50, .call .deep (.v (.clo F.slices_isNaN_string [] [])) [.t 49], some (48, true)⟩,⟨some 51, .pick (.t 48) (.t 50) (.v (.bool false)), some (42, false)⟩,⟨some 52, .pick (.t 42) (.v (.bool true)) (.t 51), some (35, true)⟩,⟨some 53, .pick (.t 35) (.t 52) (.v (.bool false)),none⟩,⟨some 4, .asg (.t 31),none⟩,⟨some 5, .asg (.t 53),none⟩]
def body : AC := .seq (.reg r0 [0, 1]) (.seq (.reg r1 [0, 1, 6]) (.seq (.reg r2 [0, 1, 6, 7, 8]) (.seq (.block 0 (.loop [0, 1, 6, 7, 8] l1)) (.seq (.reg r8 [4, 5]) (.ret)))))
def fn : AFun := ⟨[.val, .val], 54, [.tmp 4, .tmp 5], [], body⟩
end slices_BinarySearch_Lstring_string
namespace hallmarklaw03_smallAll
def r0 : List AO := [⟨some 2, .asg (.v (.bool false)),none⟩]
def r1 : List AO := [⟨some 5, .mv (.t 0),none⟩,⟨some 6, .len false (.t 5),none⟩,⟨some 3, .asg (.t 6),none⟩]
def r2 : List AO := [⟨some 4, .asg (.v (.int .i64 0)),none⟩]
def r3 : List AO := [⟨some 7, .mv (.t 4),none⟩,⟨some 8, .mv (.t 0),none⟩,⟨some 9, .len false (.t 8),none⟩,⟨some 10, .bin .lss (.t 7) (.t 9),none⟩,⟨some 11, .mv (.t 10),none⟩,⟨some 12, .mv (.t 3), some (11, true)⟩,⟨some 13, .bin .leq (.t 12) (.v (.int .i64 10000)), some (11, true)⟩,⟨some 14, .pick (.t 11) (.t 13) (.v (.bool false)),none⟩]
def r5 : List AO := [⟨some 17, .mv (.t 3),none⟩,⟨some 18, .mv (.t 0),none⟩,⟨some 19, .mv (.t 4),none⟩,⟨some 20, .iadr 5 (.t 18) (.t 19),none⟩,⟨some 21, .load 5 true (.t 20),none⟩,⟨some 22, .call .deep (.v (.clo F.hallmarkref03_Parts [] [])) [.t 21, .v (.int .i64 10000)],none⟩,⟨some 23, .bin .add (.t 17) (.t 22),none⟩,⟨some 3, .asg (.t 23),none⟩]
def r4 : List AO := [⟨some 15, .mv (.t 4),none⟩,⟨some 16, .bin .add (.t 15) (.v (.int .i64 1)),none⟩,⟨some 4, .asg (.t 16),none⟩]
def l1 : AC := .seq (.seq (.reg r3 [0, 3, 4, 14]) (.cond (.t 14) (.skip) (.exit 0))) (.seq (.block 1 (.reg r5 [0, 3, 4])) (.reg r4 [0, 3, 4]))
def r6 : List AO := [⟨some 24, .mv (.t 3),none⟩,⟨some 25, .bin .leq (.t 24) (.v (.int .i64 10000)),none⟩,⟨some 2, .asg (.t 25),none⟩]
def body : AC := .seq (.reg r0 [0]) (.seq (.reg r1 [0, 3]) (.seq (.seq (.reg r2 [0, 3, 4]) (.block 0 (.loop [0, 3, 4] l1))) (.seq (.reg r6 [2]) (.ret))))
def fn : AFun := ⟨[.val], 26, [.tmp 2], [], body⟩
end hallmarklaw03_smallAll
namespace hallmarkref03_Make
def r0 : List AO := [⟨some 4, .alloc [.av (.int .i64 0), .av (.str []), .av (.str []), .own 5 [], .own 1 []],none⟩,⟨some 5, .asg (.v (.int .i64 0)),none⟩]
def r1 : List AO := [⟨some 7, .mv (.t 0),none⟩,⟨some 8, .len false (.t 7),none⟩,⟨some 9, .mv (.t 1),none⟩,⟨some 10, .len false (.t 9),none⟩,⟨some 11, .bin .neq (.t 8) (.t 10),none⟩,⟨some 12, .mv (.t 11),none⟩,⟨some 13, .mv (.t 1), some (12, false)⟩,⟨some 14, .call .deep (.v (.clo F.hallmarkref03_All [] [])) [.t 13], some (12, false)⟩,⟨some 15, .un .not (.t 14), some (12, false)⟩,⟨some 16, .pick (.t 12) (.v (.bool true)) (.t 15),none⟩]
def r2 : List AO := [⟨some 17, .build [.av (.int .i64 0), .av (.str []), .av (.str []), .own 5 [], .own 1 []] [],none⟩,⟨none, .store 5 (.t 4) (.t 17),none⟩,⟨some 5, .asg (.v (.int .i64 1)),none⟩]
def r3 : List AO := [⟨some 6, .asg (.v (.int .i64 0)),none⟩]
def r4 : List AO := [⟨some 18, .mv (.t 6),none⟩,⟨some 19, .mv (.t 0),none⟩,⟨some 20, .len false (.t 19),none⟩,⟨some 21, .bin .lss (.t 18) (.t 20),none⟩]
def r6 : List AO := [⟨some 24, .mv (.t 0),none⟩,⟨some 25, .mv (.t 6),none⟩,⟨some 26, .iadr 1 (.t 24) (.t 25),none⟩,⟨some 27, .load 1 false (.t 26),none⟩,⟨some 28, .call .deep (.v (.clo F.hallmarkref03_UTF [] [])) [.t 27],none⟩,⟨some 29, .un .not (.t 28),none⟩]
def r7 : List AO := [⟨some 30, .build [.av (.int .i64 0), .av (.str []), .av (.str []), .own 5 [], .own 1 []] [],none⟩,⟨none, .store 5 (.t 4) (.t 30),none⟩,⟨some 5, .asg (.v (.int .i64 1)),none⟩]
def r5 : List AO := [⟨some 22, .mv (.t 6),none⟩,⟨some 23, .bin .add (.t 22) (.v (.int .i64 1)),none⟩,⟨some 6, .asg (.t 23),none⟩]
def l1 : AC := .seq (.seq (.reg r4 [0, 1, 4, 6, 21]) (.cond (.t 21) (.skip) (.exit 0))) (.seq (.block 1 (.seq (.reg r6 [0, 1, 4, 6, 29]) (.cond (.t 29) (.seq (.reg r7 [4, 5]) (.ret)) (.skip)))) (.reg r5 [0, 1, 4, 6]))
def r8 : List AO := [⟨some 31, .mv (.t 0),none⟩,⟨some 32, .mv (.t 1),none⟩,⟨some 33, .call .deep (.v (.clo F.hallmarkref03_gather [] [])) [.t 31, .t 32],none⟩,⟨none, .store 5 (.t 4) (.t 33),none⟩,⟨some 5, .asg (.v (.int .i64 0)),none⟩]
def body : AC := .seq (.reg r0 [0, 1, 4]) (.seq (.seq (.reg r1 [0, 1, 4, 16]) (.cond (.t 16) (.seq (.reg r2 [4, 5]) (.ret)) (.skip))) (.seq (.seq (.reg r3 [0, 1, 4, 6]) (.block 0 (.loop [0, 1, 4, 6] l1))) (.seq (.reg r8 [4, 5]) (.ret))))
def fn : AFun := ⟨[.val, .val], 34, [.cell 4 5 true, .tmp 5], [], body⟩
end hallmarkref03_Make
namespace hallmarkref03_Get
def r0 : List AO := [⟨some 2, .box (.t 0),none⟩,⟨some 4, .alloc [.av (.int .i64 0), .av (.str []), .av (.str []), .own 5 [], .own 1 []],none⟩,⟨some 5, .asg (.v (.bool false)),none⟩]
def r1 : List AO := [⟨some 7, .fadr 0 (.t 2),none⟩,⟨some 8, .load 1 false (.t 7),none⟩,⟨some 9, .bin .neq (.t 8) (.v (.int .i64 6)),none⟩]
def r2 : List AO := [⟨some 10, .build [.av (.int .i64 0), .av (.str []), .av (.str []), .own 5 [], .own 1 []] [],none⟩,⟨none, .store 5 (.t 4) (.t 10),none⟩,⟨some 5, .asg (.v (.bool false)),none⟩]
def r3 : List AO := [⟨some 6, .asg (.v (.int .i64 0)),none⟩]
def r4 : List AO := [⟨some 11, .mv (.t 6),none⟩,⟨some 12, .fadr 4 (.t 2),none⟩,⟨some 13, .load 1 false (.t 12),none⟩,⟨some 14, .len false (.t 13),none⟩,⟨some 15, .bin .lss (.t 11) (.t 14),none⟩]
def r6 : List AO := [⟨some 18, .fadr 4 (.t 2),none⟩,⟨some 19, .load 1 false (.t 18),none⟩,⟨some 20, .mv (.t 6),none⟩,⟨some 21, .iadr 1 (.t 19) (.t 20),none⟩,⟨some 22, .load 1 false (.t 21),none⟩,⟨some 23, .mv (.t 1),none⟩,⟨some 24, .bin .eql (.t 22) (.t 23),none⟩]
def r7 : List AO := [⟨some 25, .mv (.t 6),none⟩,⟨some 26, .fadr 3 (.t 2),none⟩,⟨some 27, .load 1 false (.t 26),none⟩,⟨some 28, .len false (.t 27),none⟩,⟨some 29, .bin .geq (.t 25) (.t 28),none⟩]
def r8 : List AO := [⟨some 30, .build [.av (.int .i64 0), .av (.str []), .av (.str []), .own 5 [], .own 1 []] [],none⟩,⟨none, .store 5 (.t 4) (.t 30),none⟩,⟨some 5, .asg (.v (.bool false)),none⟩]
def r9 : List AO := [⟨some 31, .fadr 3 (.t 2),none⟩,⟨some 32, .take 1 false (.t 31),none⟩,⟨some 33, .mv (.t 6),none⟩,⟨some 34, .iadr 5 (.t 32) (.t 33),none⟩,⟨some 35, .load 5 true (.t 34),none⟩,⟨none, .store 5 (.t 4) (.t 35),none⟩,⟨some 5, .asg (.v (.bool true)),none⟩]
def r5 : List AO := [⟨some 16, .mv (.t 6),none⟩,⟨some 17, .bin .add (.t 16) (.v (.int .i64 1)),none⟩,⟨some 6, .asg (.t 17),none⟩]
def l1 : AC := .seq (.seq (.reg r4 [1, 2, 4, 6, 15]) (.cond (.t 15) (.skip) (.exit 0))) (.seq (.block 1 (.seq (.reg r6 [1, 2, 4, 6, 24]) (.cond (.t 24) (.seq (.seq (.reg r7 [2, 4, 6, 29]) (.cond (.t 29) (.seq (.reg r8 [4, 5]) (.ret)) (.skip))) (.seq (.reg r9 [4, 5]) (.ret))) (.skip)))) (.reg r5 [1, 2, 4, 6]))
def r10 : List AO := [⟨some 36, .build [.av (.int .i64 0), .av (.str []), .av (.str []), .own 5 [], .own 1 []] [],none⟩,⟨none, .store 5 (.t 4) (.t 36),none⟩,⟨some 5, .asg (.v (.bool false)),none⟩]
def body : AC := .seq (.reg r0 [1, 2, 4]) (.seq (.seq (.reg r1 [1, 2, 4, 9]) (.cond (.t 9) (.seq (.reg r2 [4, 5]) (.ret)) (.skip))) (.seq (.seq (.reg r3 [1, 2, 4, 6]) (.block 0 (.loop [1, 2, 4, 6] l1))) (.seq (.reg r10 [4, 5]) (.ret))))
def fn : AFun := ⟨[.val, .val], 37, [.cell 4 5 true, .tmp 5], [], body⟩
end hallmarkref03_Get
namespace hallmarkref03_With
def r0 : List AO := [⟨some 3, .box (.t 0),none⟩,⟨some 5, .box (.t 2),none⟩,⟨some 6, .alloc [.av (.int .i64 0), .av (.str []), .av (.str []), .own 5 [], .own 1 []],none⟩,⟨some 7, .asg (.v (.int .i64 0)),none⟩]
def r1 : List AO := [⟨some 8, .load 5 true (.t 3),none⟩,⟨some 9, .call .deep (.v (.clo F.hallmarkref03_object [] [])) [.t 8],none⟩,⟨some 10, .un .not (.t 9),none⟩,⟨some 11, .mv (.t 10),none⟩,⟨some 12, .mv (.t 1), some (11, false)⟩,⟨some 13, .call .deep (.v (.clo F.hallmarkref03_UTF [] [])) [.t 12], some (11, false)⟩,⟨some 14, .un .not (.t 13), some (11, false)⟩,⟨some 15, .pick (.t 11) (.v (.bool true)) (.t 14),none⟩,⟨some 16, .mv (.t 15),none⟩,⟨some 17, .load 5 true (.t 5), some (16, false)⟩,⟨some 18, .call .deep (.v (.clo F.hallmarkref03_Formed [] [])) [.t 17], some (16, false)⟩,⟨some 19, .un .not (.t 18), some (16, false)⟩,⟨some 20, .pick (.t 16) (.v (.bool true)) (.t 19),none⟩]
def r2 : List AO := [⟨some 21, .build [.av (.int .i64 0), .av (.str []), .av (.str []), .own 5 [], .own 1 []] [],none⟩,⟨none, .store 5 (.t 6) (.t 21),none⟩,⟨some 7, .asg (.v (.int .i64 1)),none⟩]
def r3 : List Ph := [.bag true [] [1, 23, 24, 26, 27, 29, 30, 31, 32, 33] [(0, ⟨some 22, .fadr 4 (.t 3),none⟩),(1, ⟨some 23, .load 1 false (.t 22),none⟩),(2, ⟨some 24, .call .none (.v (.clo F.hallmarkref03_texts [] [])) [.t 23],none⟩),(3, ⟨some 25, .mv (.t 1),none⟩),(4, ⟨some 26, .buildS 1 1 [.av (.str [])] [(0, 1, .t 25)],none⟩),(5, ⟨some 27, .append 16 1 (.t 24) (.t 26),none⟩),(6, ⟨some 28, .fadr 3 (.t 3),none⟩),(7, ⟨some 29, .load 1 false (.t 28),none⟩),(8, ⟨some 30, .call .none (.v (.clo F.hallmarkref03_Twins [] [])) [.t 29],none⟩),(9, ⟨some 31, .load 5 true (.t 5),none⟩),(10, ⟨some 32, .buildS 1 5 [.av (.int .i64 0), .av (.str []), .av (.str []), .own 5 [], .own 1 []] [(0, 5, .t 31)],none⟩),(11, ⟨some 33, .append 88 5 (.t 30) (.t 32),none⟩),(12, ⟨some 34, .call .deep (.v (.clo F.hallmarkref03_gather [] [])) [.t 27, .t 33],none⟩)],.one 13 ⟨none, .store 5 (.t 6) (.t 34),none⟩,.one 14 ⟨some 7, .asg (.v (.int .i64 0)),none⟩]
def body : AC := .seq (.reg r0 [1, 3, 5, 6]) (.seq (.seq (.reg r1 [1, 3, 5, 6, 20]) (.cond (.t 20) (.seq (.reg r2 [6, 7]) (.ret)) (.skip))) (.seq (.dreg r3 [6, 7]) (.ret)))
def fn : AFun := ⟨[.val, .val, .val], 35, [.cell 6 5 true, .tmp 7], [], body⟩
end hallmarkref03_With
namespace hallmarkref03_Without
def r0 : List AO := [⟨some 2, .box (.t 0),none⟩,⟨some 4, .alloc [.av (.int .i64 0), .av (.str []), .av (.str []), .own 5 [], .own 1 []],none⟩,⟨some 5, .asg (.v (.int .i64 0)),none⟩]
def r1 : List AO := [⟨some 8, .load 5 true (.t 2),none⟩,⟨some 9, .call .deep (.v (.clo F.hallmarkref03_object [] [])) [.t 8],none⟩,⟨some 10, .un .not (.t 9),none⟩]
def r2 : List AO := [⟨some 11, .build [.av (.int .i64 0), .av (.str []), .av (.str []), .own 5 [], .own 1 []] [],none⟩,⟨none, .store 5 (.t 4) (.t 11),none⟩,⟨some 5, .asg (.v (.int .i64 1)),none⟩]
def r3 : List AO := [⟨some 12, .build [.av (.int .i64 0), .av (.str []), .av (.str []), .own 5 [], .own 1 []] [(0, 1, .v (.int .i64 6))],none⟩,⟨some 6, .alloc [.av (.int .i64 0), .av (.str []), .av (.str []), .own 5 [], .own 1 []],none⟩,⟨none, .store 5 (.t 6) (.t 12),none⟩]
def r4 : List AO := [⟨some 7, .asg (.v (.int .i64 0)),none⟩]
def r5 : List AO := [⟨some 13, .mv (.t 7),none⟩,⟨some 14, .fadr 4 (.t 2),none⟩,⟨some 15, .load 1 false (.t 14),none⟩,⟨some 16, .len false (.t 15),none⟩,⟨some 17, .bin .lss (.t 13) (.t 16),none⟩]
def r7 : List AO := [⟨some 20, .fadr 4 (.t 2),none⟩,⟨some 21, .load 1 false (.t 20),none⟩,⟨some 22, .mv (.t 7),none⟩,⟨some 23, .iadr 1 (.t 21) (.t 22),none⟩,⟨some 24, .load 1 false (.t 23),none⟩,⟨some 25, .mv (.t 1),none⟩,⟨some 26, .bin .neq (.t 24) (.t 25),none⟩]
def r8 : List Ph := [.bag false [] [7] [(0, ⟨some 27, .fadr 4 (.t 6),none⟩),(1, ⟨some 28, .load 1 false (.t 27),none⟩),(2, ⟨some 29, .fadr 4 (.t 2),none⟩),(3, ⟨some 30, .load 1 false (.t 29),none⟩),(4, ⟨some 31, .mv (.t 7),none⟩),(5, ⟨some 32, .iadr 1 (.t 30) (.t 31),none⟩),(6, ⟨some 33, .load 1 false (.t 32),none⟩),(7, ⟨some 34, .buildS 1 1 [.av (.str [])] [(0, 1, .t 33)],none⟩)],.one 8 ⟨some 35, .append 16 1 (.t 28) (.t 34),none⟩,.one 9 ⟨some 36, .fadr 4 (.t 6),none⟩,.one 10 ⟨none, .store 1 (.t 36) (.t 35),none⟩]
def r9 : List Ph := [.bag false [] [7, 43] [(0, ⟨some 37, .fadr 3 (.t 6),none⟩),(1, ⟨some 38, .load 1 false (.t 37),none⟩),(2, ⟨some 39, .fadr 3 (.t 2),none⟩),(3, ⟨some 40, .load 1 false (.t 39),none⟩),(4, ⟨some 41, .mv (.t 7),none⟩),(5, ⟨some 42, .iadr 5 (.t 40) (.t 41),none⟩),(6, ⟨some 43, .load 5 true (.t 42),none⟩),(7, ⟨some 44, .buildS 1 5 [.av (.int .i64 0), .av (.str []), .av (.str []), .own 5 [], .own 1 []] [(0, 5, .t 43)],none⟩)],.one 8 ⟨some 45, .append 88 5 (.t 38) (.t 44),none⟩,.one 9 ⟨some 46, .fadr 3 (.t 6),none⟩,.one 10 ⟨none, .store 1 (.t 46) (.t 45),none⟩]
def r6 : List AO := [⟨some 18, .mv (.t 7),none⟩,⟨some 19, .bin .add (.t 18) (.v (.int .i64 1)),none⟩,⟨some 7, .asg (.t 19),none⟩]
def l1 : AC := .seq (.seq (.reg r5 [1, 2, 4, 6, 7, 17]) (.cond (.t 17) (.skip) (.exit 0))) (.seq (.block 1 (.seq (.reg r7 [1, 2, 4, 6, 7, 26]) (.cond (.t 26) (.seq (.dreg r8 [1, 2, 4, 6, 7]) (.dreg r9 [1, 2, 4, 6, 7])) (.skip)))) (.reg r6 [1, 2, 4, 6, 7]))
def r10 : List AO := [⟨some 47, .take 5 true (.t 6),none⟩,⟨none, .store 5 (.t 4) (.t 47),none⟩,⟨some 5, .asg (.v (.int .i64 0)),none⟩]
def body : AC := .seq (.reg r0 [1, 2, 4]) (.seq (.seq (.reg r1 [1, 2, 4, 10]) (.cond (.t 10) (.seq (.reg r2 [4, 5]) (.ret)) (.skip))) (.seq (.reg r3 [1, 2, 4, 6]) (.seq (.seq (.reg r4 [1, 2, 4, 6, 7]) (.block 0 (.loop [1, 2, 4, 6, 7] l1))) (.seq (.reg r10 [4, 5]) (.ret)))))
def fn : AFun := ⟨[.val, .val], 48, [.cell 4 5 true, .tmp 5], [], body⟩
end hallmarkref03_Without
namespace hallmarkref03_Merge
def r0 : List AO := [⟨some 2, .box (.t 0),none⟩,⟨some 3, .box (.t 1),none⟩,⟨some 4, .alloc [.av (.int .i64 0), .av (.str []), .av (.str []), .own 5 [], .own 1 []],none⟩,⟨some 5, .asg (.v (.int .i64 0)),none⟩]
def r1 : List AO := [⟨some 9, .load 5 true (.t 2),none⟩,⟨some 10, .call .deep (.v (.clo F.hallmarkref03_object [] [])) [.t 9],none⟩,⟨some 11, .un .not (.t 10),none⟩,⟨some 12, .mv (.t 11),none⟩,⟨some 13, .load 5 true (.t 3), some (12, false)⟩,⟨some 14, .call .deep (.v (.clo F.hallmarkref03_object [] [])) [.t 13], some (12, false)⟩,⟨some 15, .un .not (.t 14), some (12, false)⟩,⟨some 16, .pick (.t 12) (.v (.bool true)) (.t 15),none⟩]
def r2 : List AO := [⟨some 17, .build [.av (.int .i64 0), .av (.str []), .av (.str []), .own 5 [], .own 1 []] [],none⟩,⟨none, .store 5 (.t 4) (.t 17),none⟩,⟨some 5, .asg (.v (.int .i64 1)),none⟩]
def r3 : List AO := [⟨some 18, .fadr 4 (.t 2),none⟩,⟨some 19, .load 1 false (.t 18),none⟩,⟨some 20, .call .none (.v (.clo F.hallmarkref03_texts [] [])) [.t 19],none⟩,⟨some 6, .asgo (.t 20),none⟩]
def r4 : List AO := [⟨some 21, .fadr 3 (.t 2),none⟩,⟨some 22, .take 1 false (.t 21),none⟩,⟨some 23, .call .none (.v (.clo F.hallmarkref03_Twins [] [])) [.t 22],none⟩,⟨some 7, .asgo (.t 23),none⟩]
def r5 : List AO := [⟨some 8, .asg (.v (.int .i64 0)),none⟩]
def r6 : List AO := [⟨some 24, .mv (.t 8),none⟩,⟨some 25, .fadr 4 (.t 3),none⟩,⟨some 26, .load 1 false (.t 25),none⟩,⟨some 27, .len false (.t 26),none⟩,⟨some 28, .bin .lss (.t 24) (.t 27),none⟩]
def r8 : List AO := [⟨some 31, .mvt 6,none⟩,⟨some 32, .fadr 4 (.t 3),none⟩,⟨some 33, .load 1 false (.t 32),none⟩,⟨some 34, .mv (.t 8),none⟩,⟨some 35, .iadr 1 (.t 33) (.t 34),none⟩,⟨some 36, .load 1 false (.t 35),none⟩,⟨some 37, .buildS 1 1 [.av (.str [])] [(0, 1, .t 36)],none⟩,⟨some 38, .append 16 1 (.t 31) (.t 37),none⟩,⟨some 6, .asgo (.t 38),none⟩]
def r9 : List AO := [⟨some 39, .mvt 7,none⟩,⟨some 40, .fadr 3 (.t 3),none⟩,⟨some 41, .load 1 false (.t 40),none⟩,⟨some 42, .mv (.t 8),none⟩,⟨some 43, .iadr 5 (.t 41) (.t 42),none⟩,⟨some 44, .load 5 true (.t 43),none⟩,⟨some 45, .buildS 1 5 [.av (.int .i64 0), .av (.str []), .av (.str []), .own 5 [], .own 1 []] [(0, 5, .t 44)],none⟩,⟨some 46, .append 88 5 (.t 39) (.t 45),none⟩,⟨some 7, .asgo (.t 46),none⟩]
def r7 : List AO := [⟨some 29, .mv (.t 8),none⟩,⟨some 30, .bin .add (.t 29) (.v (.int .i64 1)),none⟩,⟨some 8, .asg (.t 30),none⟩]
def l1 : AC := .seq (.seq (.reg r6 [3, 4, 6, 7, 8, 28]) (.cond (.t 28) (.skip) (.exit 0))) (.seq (.block 1 (.seq (.reg r8 [3, 4, 6, 7, 8]) (.reg r9 [3, 4, 6, 7, 8]))) (.reg r7 [3, 4, 6, 7, 8]))
def r10 : List AO := [⟨some 47, .mvt 6,none⟩,⟨some 48, .mvt 7,none⟩,⟨some 49, .call .none (.v (.clo F.hallmarkref03_gather [] [])) [.t 47, .t 48],none⟩,⟨none, .store 5 (.t 4) (.t 49),none⟩,⟨some 5, .asg (.v (.int .i64 0)),none⟩]
def body : AC := .seq (.reg r0 [2, 3, 4]) (.seq (.seq (.reg r1 [2, 3, 4, 16]) (.cond (.t 16) (.seq (.reg r2 [4, 5]) (.ret)) (.skip))) (.seq (.reg r3 [2, 3, 4, 6]) (.seq (.reg r4 [3, 4, 6, 7]) (.seq (.seq (.reg r5 [3, 4, 6, 7, 8]) (.block 0 (.loop [3, 4, 6, 7, 8] l1))) (.seq (.reg r10 [4, 5]) (.ret))))))
def fn : AFun := ⟨[.val, .val], 50, [.cell 4 5 true, .tmp 5], [6, 7], body⟩
end hallmarkref03_Merge
namespace hallmarkref03_Deep
def r0 : List AO := [⟨some 2, .box (.t 0),none⟩,⟨some 3, .box (.t 1),none⟩,⟨some 4, .alloc [.av (.int .i64 0), .av (.str []), .av (.str []), .own 5 [], .own 1 []],none⟩,⟨some 5, .asg (.v (.int .i64 0)),none⟩]
def r1 : List AO := [⟨some 16, .load 5 true (.t 2),none⟩,⟨some 17, .load 5 true (.t 3),none⟩,⟨some 18, .call .none (.v (.clo F.hallmarkref03_Merge [] [])) [.t 16, .t 17],none⟩,⟨some 15, .mv (.t 18),none⟩,⟨some 19, .ext (.t 15) 0,none⟩,⟨some 20, .ext (.t 15) 1,none⟩,⟨some 6, .alloc [.av (.int .i64 0), .av (.str []), .av (.str []), .own 5 [], .own 1 []],none⟩,⟨none, .store 5 (.t 6) (.t 19),none⟩,⟨some 7, .asg (.t 20),none⟩]
def r2 : List AO := [⟨some 21, .mv (.t 7),none⟩,⟨some 22, .bin .neq (.t 21) (.v (.int .i64 0)),none⟩]
def r3 : List AO := [⟨some 23, .take 5 true (.t 6),none⟩,⟨some 24, .mv (.t 7),none⟩,⟨none, .store 5 (.t 4) (.t 23),none⟩,⟨some 5, .asg (.t 24),none⟩]
def r4 : List AO := [⟨some 8, .asg (.v (.int .i64 0)),none⟩]
def r5 : List AO := [⟨some 25, .mv (.t 8),none⟩,⟨some 26, .fadr 4 (.t 6),none⟩,⟨some 27, .load 1 false (.t 26),none⟩,⟨some 28, .len false (.t 27),none⟩,⟨some 29, .bin .lss (.t 25) (.t 28),none⟩]
def r7 : List Ph := [.bag false [9] [8, 33, 39] [(0, ⟨some 33, .load 5 true (.t 2),none⟩),(1, ⟨some 34, .fadr 4 (.t 6),none⟩),(2, ⟨some 35, .load 1 false (.t 34),none⟩),(3, ⟨some 36, .mv (.t 8),none⟩),(4, ⟨some 37, .iadr 1 (.t 35) (.t 36),none⟩),(5, ⟨some 38, .load 1 false (.t 37),none⟩),(6, ⟨some 39, .call .deep (.v (.clo F.hallmarkref03_Get [] [])) [.t 33, .t 38],none⟩),(7, ⟨some 32, .mv (.t 39),none⟩),(8, ⟨some 40, .ext (.t 32) 0,none⟩),(9, ⟨some 41, .ext (.t 32) 1,none⟩),(10, ⟨some 9, .alloc [.av (.int .i64 0), .av (.str []), .av (.str []), .own 5 [], .own 1 []],none⟩)],.one 11 ⟨none, .store 5 (.t 9) (.t 40),none⟩,.one 12 ⟨some 10, .asg (.t 41),none⟩]
def r8 : List Ph := [.bag false [9] [8, 43, 49] [(0, ⟨some 43, .load 5 true (.t 3),none⟩),(1, ⟨some 44, .fadr 4 (.t 6),none⟩),(2, ⟨some 45, .load 1 false (.t 44),none⟩),(3, ⟨some 46, .mv (.t 8),none⟩),(4, ⟨some 47, .iadr 1 (.t 45) (.t 46),none⟩),(5, ⟨some 48, .load 1 false (.t 47),none⟩),(6, ⟨some 49, .call .deep (.v (.clo F.hallmarkref03_Get [] [])) [.t 43, .t 48],none⟩),(7, ⟨some 42, .mv (.t 49),none⟩),(8, ⟨some 50, .ext (.t 42) 0,none⟩),(9, ⟨some 51, .ext (.t 42) 1,none⟩),(10, ⟨some 11, .alloc [.av (.int .i64 0), .av (.str []), .av (.str []), .own 5 [], .own 1 []],none⟩)],.one 11 ⟨none, .store 5 (.t 11) (.t 50),none⟩,.one 12 ⟨some 12, .asg (.t 51),none⟩]
def r9 : List AO := [⟨some 52, .mv (.t 10),none⟩,⟨some 53, .mv (.t 52),none⟩,⟨some 54, .mv (.t 12), some (53, true)⟩,⟨some 55, .pick (.t 53) (.t 54) (.v (.bool false)),none⟩,⟨some 56, .mv (.t 55),none⟩,⟨some 57, .fadr 0 (.t 9), some (56, true)⟩,⟨some 58, .load 1 false (.t 57), some (56, true)⟩,⟨some 59, .bin .eql (.t 58) (.v (.int .i64 6)), some (56, true)⟩,⟨some 60, .pick (.t 56) (.t 59) (.v (.bool false)),none⟩,⟨some 61, .mv (.t 60),none⟩,⟨some 62, .fadr 0 (.t 11), some (61, true)⟩,⟨some 63, .load 1 false (.t 62), some (61, true)⟩,⟨some 64, .bin .eql (.t 63) (.v (.int .i64 6)), some (61, true)⟩,⟨some 65, .pick (.t 61) (.t 64) (.v (.bool false)),none⟩]
def r10 : List AO := [⟨some 67, .take 5 true (.t 9),none⟩,⟨some 68, .take 5 true (.t 11),none⟩,⟨some 69, .call .deep (.v (.clo F.hallmarkref03_Deep [] [])) [.t 67, .t 68],none⟩,⟨some 66, .mv (.t 69),none⟩,⟨some 70, .ext (.t 66) 0,none⟩,⟨some 71, .ext (.t 66) 1,none⟩,⟨some 13, .alloc [.av (.int .i64 0), .av (.str []), .av (.str []), .own 5 [], .own 1 []],none⟩,⟨none, .store 5 (.t 13) (.t 70),none⟩,⟨some 14, .asg (.t 71),none⟩]
def r11 : List AO := [⟨some 72, .fadr 3 (.t 6),none⟩,⟨some 73, .load 1 false (.t 72),none⟩,⟨some 74, .mv (.t 8),none⟩,⟨some 75, .take 5 true (.t 13),none⟩,⟨some 76, .iadr 5 (.t 73) (.t 74),none⟩,⟨none, .store 5 (.t 76) (.t 75),none⟩]
def r6 : List AO := [⟨some 30, .mv (.t 8),none⟩,⟨some 31, .bin .add (.t 30) (.v (.int .i64 1)),none⟩,⟨some 8, .asg (.t 31),none⟩]
def l1 : AC := .seq (.seq (.reg r5 [2, 3, 4, 6, 8, 29]) (.cond (.t 29) (.skip) (.exit 0))) (.seq (.block 1 (.seq (.dreg r7 [2, 3, 4, 6, 8, 9, 10]) (.seq (.dreg r8 [2, 3, 4, 6, 8, 9, 10, 11, 12]) (.seq (.reg r9 [2, 3, 4, 6, 8, 9, 11, 65]) (.cond (.t 65) (.seq (.reg r10 [2, 3, 4, 6, 8, 13]) (.reg r11 [2, 3, 4, 6, 8])) (.skip)))))) (.reg r6 [2, 3, 4, 6, 8]))
def r12 : List AO := [⟨some 77, .take 5 true (.t 6),none⟩,⟨none, .store 5 (.t 4) (.t 77),none⟩,⟨some 5, .asg (.v (.int .i64 0)),none⟩]
def body : AC := .seq (.reg r0 [2, 3, 4]) (.seq (.reg r1 [2, 3, 4, 6, 7]) (.seq (.seq (.reg r2 [2, 3, 4, 6, 7, 22]) (.cond (.t 22) (.seq (.reg r3 [4, 5]) (.ret)) (.skip))) (.seq (.seq (.reg r4 [2, 3, 4, 6, 8]) (.block 0 (.loop [2, 3, 4, 6, 8] l1))) (.seq (.reg r12 [4, 5]) (.ret)))))
def fn : AFun := ⟨[.val, .val], 78, [.cell 4 5 true, .tmp 5], [], body⟩
end hallmarkref03_Deep
namespace hallmarkref03_Twin
def r0 : List AO := [⟨some 1, .box (.t 0),none⟩,⟨some 2, .alloc [.av (.int .i64 0), .av (.str []), .av (.str []), .own 5 [], .own 1 []],none⟩]
def r1 : List AO := [⟨some 5, .fadr 0 (.t 1),none⟩,⟨some 6, .load 1 false (.t 5),none⟩,⟨some 7, .fadr 1 (.t 1),none⟩,⟨some 8, .load 1 false (.t 7),none⟩,⟨some 9, .fadr 2 (.t 1),none⟩,⟨some 10, .load 1 false (.t 9),none⟩,⟨some 11, .build [.av (.int .i64 0), .av (.str []), .av (.str []), .own 5 [], .own 1 []] [(0, 1, .t 6), (1, 1, .t 8), (2, 1, .t 10)],none⟩,⟨some 3, .alloc [.av (.int .i64 0), .av (.str []), .av (.str []), .own 5 [], .own 1 []],none⟩,⟨none, .store 5 (.t 3) (.t 11),none⟩]
def r2 : List AO := [⟨some 4, .asg (.v (.int .i64 0)),none⟩]
def r3 : List AO := [⟨some 12, .mv (.t 4),none⟩,⟨some 13, .fadr 4 (.t 1),none⟩,⟨some 14, .load 1 false (.t 13),none⟩,⟨some 15, .len false (.t 14),none⟩,⟨some 16, .bin .lss (.t 12) (.t 15),none⟩]
def r5 : List Ph := [.bag false [] [4] [(0, ⟨some 19, .fadr 4 (.t 3),none⟩),(1, ⟨some 20, .load 1 false (.t 19),none⟩),(2, ⟨some 21, .fadr 4 (.t 1),none⟩),(3, ⟨some 22, .load 1 false (.t 21),none⟩),(4, ⟨some 23, .mv (.t 4),none⟩),(5, ⟨some 24, .iadr 1 (.t 22) (.t 23),none⟩),(6, ⟨some 25, .load 1 false (.t 24),none⟩),(7, ⟨some 26, .buildS 1 1 [.av (.str [])] [(0, 1, .t 25)],none⟩)],.one 8 ⟨some 27, .append 16 1 (.t 20) (.t 26),none⟩,.one 9 ⟨some 28, .fadr 4 (.t 3),none⟩,.one 10 ⟨none, .store 1 (.t 28) (.t 27),none⟩]
def r4 : List AO := [⟨some 17, .mv (.t 4),none⟩,⟨some 18, .bin .add (.t 17) (.v (.int .i64 1)),none⟩,⟨some 4, .asg (.t 18),none⟩]
def l1 : AC := .seq (.seq (.reg r3 [1, 2, 3, 4, 16]) (.cond (.t 16) (.skip) (.exit 0))) (.seq (.block 1 (.dreg r5 [1, 2, 3, 4])) (.reg r4 [1, 2, 3, 4]))
def r6 : List AO := [⟨some 29, .fadr 3 (.t 1),none⟩,⟨some 30, .take 1 false (.t 29),none⟩,⟨some 31, .call .none (.v (.clo F.hallmarkref03_Twins [] [])) [.t 30],none⟩,⟨some 32, .fadr 3 (.t 3),none⟩,⟨none, .store 1 (.t 32) (.t 31),none⟩]
def r7 : List AO := [⟨some 33, .take 5 true (.t 3),none⟩,⟨none, .store 5 (.t 2) (.t 33),none⟩]
def body : AC := .seq (.reg r0 [1, 2]) (.seq (.reg r1 [1, 2, 3]) (.seq (.seq (.reg r2 [1, 2, 3, 4]) (.block 0 (.loop [1, 2, 3, 4] l1))) (.seq (.reg r6 [2, 3]) (.seq (.reg r7 [2]) (.ret)))))
def fn : AFun := ⟨[.val], 34, [.cell 2 5 true], [], body⟩
end hallmarkref03_Twin
namespace value_Deep
def r0 : List AO := [⟨some 2, .box (.t 0),none⟩,⟨some 3, .box (.t 1),none⟩,⟨some 4, .alloc [.av (.int .i64 0), .av (.str []), .av (.str []), .own 5 [], .own 1 []],none⟩,⟨some 5, .asg (.v (.int .i64 0)),none⟩]
def r1 : List AO := [⟨some 6, .load 5 true (.t 2),none⟩,⟨some 7, .call .deep (.v (.clo F.value_isObject [] [])) [.t 6],none⟩,⟨some 8, .un .not (.t 7),none⟩,⟨some 9, .mv (.t 8),none⟩,⟨some 10, .load 5 true (.t 3), some (9, false)⟩,⟨some 11, .call .deep (.v (.clo F.value_isObject [] [])) [.t 10], some (9, false)⟩,⟨some 12, .un .not (.t 11), some (9, false)⟩,⟨some 13, .pick (.t 9) (.v (.bool true)) (.t 12),none⟩]
def r2 : List AO := [⟨some 14, .build [.av (.int .i64 0), .av (.str []), .av (.str []), .own 5 [], .own 1 []] [],none⟩,⟨none, .store 5 (.t 4) (.t 14),none⟩,⟨some 5, .asg (.v (.int .i64 1)),none⟩]
def r3 : List Ph := [.bag false [] [15, 17] [(0, ⟨some 15, .load 5 true (.t 2),none⟩),(1, ⟨some 16, .call .none (.v (.clo F.value_Twin [] [])) [.t 15],none⟩),(2, ⟨some 17, .load 5 true (.t 3),none⟩),(3, ⟨some 18, .call .none (.v (.clo F.value_Twin [] [])) [.t 17],none⟩)],.one 4 ⟨some 19, .callM .deep (.v (.clo F.value_deep [] [])) [.t 16, .t 18],none⟩,.one 5 ⟨none, .store 5 (.t 4) (.t 19),none⟩,.one 6 ⟨some 5, .asg (.v (.int .i64 0)),none⟩]
def body : AC := .seq (.reg r0 [2, 3, 4]) (.seq (.seq (.reg r1 [2, 3, 4, 13]) (.cond (.t 13) (.seq (.reg r2 [4, 5]) (.ret)) (.skip))) (.seq (.dreg r3 [4, 5]) (.ret)))
def fn : AFun := ⟨[.val, .val], 20, [.cell 4 5 true, .tmp 5], [], body⟩
end value_Deep
namespace unicode_utf8_ValidString
def r0 : List AO := [⟨some 2, .asg (.v (.bool false)),none⟩]
def r1 : List AO := [⟨some 7, .mv (.t 0),none⟩,⟨some 8, .len true (.t 7),none⟩,⟨some 9, .bin .gtr (.t 8) (.v (.int .i64 0)),none⟩]
def r2 : List AO := [⟨some 10, .mv (.t 0),none⟩,⟨some 11, .idxS (.t 10) (.v (.int .i64 0)),none⟩,⟨some 3, .asg (.t 11),none⟩]
def r3 : List AO := [⟨some 12, .mv (.t 3),none⟩,⟨some 13, .bin .lss (.t 12) (.v (.int .u8 128)),none⟩]
def r4 : List AO := [⟨some 14, .mv (.t 0),none⟩,⟨some 15, .slc true 1 (.t 14) (some (.v (.int .i64 1))) none,none⟩,⟨some 0, .asg (.t 15),none⟩]
def r5 : List AO := [⟨some 16, .mv (.t 0),none⟩,⟨some 17, .len true (.t 16),none⟩,⟨some 18, .bin .gtr (.t 17) (.v (.int .i64 8)),none⟩,⟨some 19, .mv (.t 18),none⟩,⟨some 20, .mv (.t 0), some (19, true)⟩,⟨some 21, .call .deep (.v (.clo F.unicode_utf8_word_string [] [])) [.t 20], some (19, true)⟩,⟨some 22, .bin .and (.t 21) (.v (.int .u64 9259542123273814144)), some (19, true)⟩,⟨some 23, .bin .eql (.t 22) (.v (.int .u64 0)), some (19, true)⟩,⟨some 24, .pick (.t 19) (.t 23) (.v (.bool false)),none⟩]
def r6 : List AO := [⟨some 25, .mv (.t 0),none⟩,⟨some 26, .slc true 1 (.t 25) (some (.v (.int .i64 8))) none,none⟩,⟨some 0, .asg (.t 26),none⟩]
def r7 : List Ph := [.bag false [] [] [(0, ⟨some 27, .mv (.t 0),none⟩),(1, ⟨some 28, .len true (.t 27),none⟩),(2, ⟨some 29, .bin .gtr (.t 28) (.v (.int .i64 16)),none⟩),(3, ⟨some 30, .mv (.t 29),none⟩),(4, ⟨some 31, .mv (.t 0), some (30, true)⟩),(5, ⟨some 32, .call .deep (.v (.clo F.unicode_utf8_word_string [] [])) [.t 31], some (30, true)⟩),(6, ⟨some 33, .mv (.t 0), some (30, true)⟩),(7, ⟨some 34, .slc true 1 (.t 33) (some (.v (.int .i64 8))) none, some (30, true)⟩),(8, ⟨some 35, .call .deep (.v (.clo F.unicode_utf8_word_string [] [])) [.t 34], some (30, true)⟩),(9, ⟨some 36, .bin .or (.t 32) (.t 35), some (30, true)⟩),(10, ⟨some 37, .bin .and (.t 36) (.v (.int .u64 9259542123273814144)), some (30, true)⟩),(11, ⟨some 38, .bin .eql (.t 37) (.v (.int .u64 0)), some (30, true)⟩),(12, ⟨some 39, .pick (.t 30) (.t 38) (.v (.bool false)),none⟩)]]
def r8 : List AO := [⟨some 40, .mv (.t 0),none⟩,⟨some 41, .slc true 1 (.t 40) (some (.v (.int .i64 16))) none,none⟩,⟨some 0, .asg (.t 41),none⟩]
def r9 : List Ph := [.bag false [] [] [(0, ⟨some 42, .mv (.t 0),none⟩),(1, ⟨some 43, .len true (.t 42),none⟩),(2, ⟨some 44, .bin .gtr (.t 43) (.v (.int .i64 32)),none⟩),(3, ⟨some 45, .mv (.t 44),none⟩),(4, ⟨some 46, .mv (.t 0), some (45, true)⟩),(5, ⟨some 47, .call .deep (.v (.clo F.unicode_utf8_word_string [] [])) [.t 46], some (45, true)⟩),(6, ⟨some 48, .mv (.t 0), some (45, true)⟩),(7, ⟨some 49, .slc true 1 (.t 48) (some (.v (.int .i64 8))) none, some (45, true)⟩),(8, ⟨some 50, .call .deep (.v (.clo F.unicode_utf8_word_string [] [])) [.t 49], some (45, true)⟩),(9, ⟨some 51, .bin .or (.t 47) (.t 50), some (45, true)⟩),(10, ⟨some 52, .mv (.t 0), some (45, true)⟩),(11, ⟨some 53, .slc true 1 (.t 52) (some (.v (.int .i64 16))) none, some (45, true)⟩),(12, ⟨some 54, .call .deep (.v (.clo F.unicode_utf8_word_string [] [])) [.t 53], some (45, true)⟩),(13, ⟨some 55, .mv (.t 0), some (45, true)⟩),(14, ⟨some 56, .slc true 1 (.t 55) (some (.v (.int .i64 24))) none, some (45, true)⟩),(15, ⟨some 57, .call .deep (.v (.clo F.unicode_utf8_word_string [] [])) [.t 56], some (45, true)⟩),(16, ⟨some 58, .bin .or (.t 54) (.t 57), some (45, true)⟩),(17, ⟨some 59, .bin .or (.t 51) (.t 58), some (45, true)⟩),(18, ⟨some 60, .bin .and (.t 59) (.v (.int .u64 9259542123273814144)), some (45, true)⟩),(19, ⟨some 61, .bin .eql (.t 60) (.v (.int .u64 0)), some (45, true)⟩),(20, ⟨some 62, .pick (.t 45) (.t 61) (.v (.bool false)),none⟩)]]
def r10 : List AO := [⟨some 63, .mv (.t 0),none⟩,⟨some 64, .slc true 1 (.t 63) (some (.v (.int .i64 32))) none,none⟩,⟨some 0, .asg (.t 64),none⟩]
def l2 : AC := .seq (.seq (.dreg r9 [0, 62]) (.cond (.t 62) (.skip) (.exit 2))) (.block 3 (.reg r10 [0]))
def r11 : List AO := [⟨some 65, .mv (.t 3),none⟩,⟨some 66, .iadrA 256 1 (.v (.vptr (zavs firZ))) (.t 65),none⟩,⟨some 67, .load 1 false (.t 66),none⟩,⟨some 4, .asg (.t 67),none⟩]
def r12 : List AO := [⟨some 68, .mv (.t 4),none⟩,⟨some 69, .bin .and (.t 68) (.v (.int .u8 7)),none⟩,⟨some 70, .conv (.int .i64) (.t 69),none⟩,⟨some 5, .asg (.t 70),none⟩]
def r13 : List AO := [⟨some 71, .mv (.t 4),none⟩,⟨some 72, .bin .shr (.t 71) (.v (.int .u64 4)),none⟩,⟨some 73, .iadrA 16 2 (.v (.vptr (zavs accZ))) (.t 72),none⟩,⟨some 74, .load 2 true (.t 73),none⟩,⟨some 6, .alloc [.av (.int .u8 0), .av (.int .u8 0)],none⟩,⟨none, .store 2 (.t 6) (.t 74),none⟩]
def r14 : List AO := [⟨some 75, .mv (.t 5),none⟩]
def r16 : List AO := [⟨some 77, .bin .eql (.t 75) (.v (.int .i64 2)),none⟩,⟨some 76, .asg (.t 77),none⟩]
def r17 : List Ph := [.bag false [] [] [(0, ⟨some 78, .mv (.t 0),none⟩),(1, ⟨some 79, .len true (.t 78),none⟩),(2, ⟨some 80, .bin .lss (.t 79) (.v (.int .i64 2)),none⟩),(3, ⟨some 81, .mv (.t 80),none⟩),(4, ⟨some 82, .mv (.t 0), some (81, false)⟩),(5, ⟨some 83, .idxS (.t 82) (.v (.int .i64 1)), some (81, false)⟩),(6, ⟨some 84, .fadr 0 (.t 6), some (81, false)⟩),(7, ⟨some 85, .load 1 false (.t 84), some (81, false)⟩),(8, ⟨some 86, .bin .lss (.t 83) (.t 85), some (81, false)⟩),(9, ⟨some 87, .pick (.t 81) (.v (.bool true)) (.t 86),none⟩),(10, ⟨some 88, .mv (.t 87),none⟩),(11, ⟨some 89, .fadr 1 (.t 6), some (88, false)⟩),(12, ⟨some 90, .load 1 false (.t 89), some (88, false)⟩),(13, ⟨some 91, .mv (.t 0), some (88, false)⟩),(14, ⟨some 92, .idxS (.t 91) (.v (.int .i64 1)), some (88, false)⟩),(15, ⟨some 93, .bin .lss (.t 90) (.t 92), some (88, false)⟩),(16, ⟨some 94, .pick (.t 88) (.v (.bool true)) (.t 93),none⟩)]]
def r18 : List AO := [⟨some 2, .asg (.v (.bool false)),none⟩]
def r19 : List AO := [⟨some 95, .mv (.t 0),none⟩,⟨some 96, .slc true 1 (.t 95) (some (.v (.int .i64 2))) none,none⟩,⟨some 0, .asg (.t 96),none⟩]
def r20 : List AO := [⟨some 98, .bin .eql (.t 75) (.v (.int .i64 3)),none⟩,⟨some 97, .asg (.t 98),none⟩]
def r21 : List Ph := [.bag false [] [] [(0, ⟨some 99, .mv (.t 0),none⟩),(1, ⟨some 100, .len true (.t 99),none⟩),(2, ⟨some 101, .bin .lss (.t 100) (.v (.int .i64 3)),none⟩),(3, ⟨some 102, .mv (.t 101),none⟩),(4, ⟨some 103, .mv (.t 0), some (102, false)⟩),(5, ⟨some 104, .idxS (.t 103) (.v (.int .i64 1)), some (102, false)⟩),(6, ⟨some 105, .fadr 0 (.t 6), some (102, false)⟩),(7, ⟨some 106, .load 1 false (.t 105), some (102, false)⟩),(8, ⟨some 107, .bin .lss (.t 104) (.t 106), some (102, false)⟩),(9, ⟨some 108, .pick (.t 102) (.v (.bool true)) (.t 107),none⟩),(10, ⟨some 109, .mv (.t 108),none⟩),(11, ⟨some 110, .fadr 1 (.t 6), some (109, false)⟩),(12, ⟨some 111, .load 1 false (.t 110), some (109, false)⟩),(13, ⟨some 112, .mv (.t 0), some (109, false)⟩),(14, ⟨some 113, .idxS (.t 112) (.v (.int .i64 1)), some (109, false)⟩),(15, ⟨some 114, .bin .lss (.t 111) (.t 113), some (109, false)⟩),(16, ⟨some 115, .pick (.t 109) (.v (.bool true)) (.t 114),none⟩),(17, ⟨some 116, .mv (.t 115),none⟩),(18, ⟨some 117, .mv (.t 0), some (116, false)⟩),(19, ⟨some 118, .idxS (.t 117) (.v (.int .i64 2)), some (116, false)⟩),(20, ⟨some 119, .bin .lss (.t 118) (.v (.int .u8 128)), some (116, false)⟩),(21, ⟨some 120, .pick (.t 116) (.v (.bool true)) (.t 119),none⟩),(22, ⟨some 121, .mv (.t 120),none⟩),(23, ⟨some 122, .mv (.t 0), some (121, false)⟩),(24, ⟨some 123, .idxS (.t 122) (.v (.int .i64 2)), some (121, false)⟩),(25, ⟨some 124, .bin .lss (.v (.int .u8 191)) (.t 123), some (121, false)⟩),(26, ⟨some 125, .pick (.t 121) (.v (.bool true)) (.t 124),none⟩)]]
def r22 : List AO := [⟨some 2, .asg (.v (.bool false)),none⟩]
def r23 : List AO := [⟨some 126, .mv (.t 0),none⟩,⟨some 127, .slc true 1 (.t 126) (some (.v (.int .i64 3))) none,none⟩,⟨some 0, .asg (.t 127),none⟩]
def r24 : List AO := [⟨some 129, .bin .eql (.t 75) (.v (.int .i64 4)),none⟩,⟨some 128, .asg (.t 129),none⟩]
def r25 : List Ph := [.bag false [] [] [(0, ⟨some 130, .mv (.t 0),none⟩),(1, ⟨some 131, .len true (.t 130),none⟩),(2, ⟨some 132, .bin .lss (.t 131) (.v (.int .i64 4)),none⟩),(3, ⟨some 133, .mv (.t 132),none⟩),(4, ⟨some 134, .mv (.t 0), some (133, false)⟩),(5, ⟨some 135, .idxS (.t 134) (.v (.int .i64 1)), some (133, false)⟩),(6, ⟨some 136, .fadr 0 (.t 6), some (133, false)⟩),(7, ⟨some 137, .load 1 false (.t 136), some (133, false)⟩),(8, ⟨some 138, .bin .lss (.t 135) (.t 137), some (133, false)⟩),(9, ⟨some 139, .pick (.t 133) (.v (.bool true)) (.t 138),none⟩),(10, ⟨some 140, .mv (.t 139),none⟩),(11, ⟨some 141, .fadr 1 (.t 6), some (140, false)⟩),(12, ⟨some 142, .load 1 false (.t 141), some (140, false)⟩),(13, ⟨some 143, .mv (.t 0), some (140, false)⟩),(14, ⟨some 144, .idxS (.t 143) (.v (.int .i64 1)), some (140, false)⟩),(15, ⟨some 145, .bin .lss (.t 142) (.t 144), some (140, false)⟩),(16, ⟨some 146, .pick (.t 140) (.v (.bool true)) (.t 145),none⟩),(17, ⟨some 147, .mv (.t 146),none⟩),(18, ⟨some 148, .mv (.t 0), some (147, false)⟩),(19, ⟨some 149, .idxS (.t 148) (.v (.int .i64 2)), some (147, false)⟩),(20, ⟨some 150, .bin .lss (.t 149) (.v (.int .u8 128)), some (147, false)⟩),(21, ⟨some 151, .pick (.t 147) (.v (.bool true)) (.t 150),none⟩),(22, ⟨some 152, .mv (.t 151),none⟩),(23, ⟨some 153, .mv (.t 0), some (152, false)⟩),(24, ⟨some 154, .idxS (.t 153) (.v (.int .i64 2)), some (152, false)⟩),(25, ⟨some 155, .bin .lss (.v (.int .u8 191)) (.t 154), some (152, false)⟩),(26, ⟨some 156, .pick (.t 152) (.v (.bool true)) (.t 155),none⟩),(27, ⟨some 157, .mv (.t 156),none⟩),(28, ⟨some 158, .mv (.t 0), some (157, false)⟩),(29, ⟨some 159, .idxS (.t 158) (.v (.int .i64 3)), some (157, false)⟩),(30, ⟨some 160, .bin .lss (.t 159) (.v (.int .u8 128)), some (157, false)⟩),(31, ⟨some 161, .pick (.t 157) (.v (.bool true)) (.t 160),none⟩),(32, ⟨some 162, .mv (.t 161),none⟩),(33, ⟨some 163, .mv (.t 0), some (162, false)⟩),(34, ⟨some 164, .idxS (.t 163) (.v (.int .i64 3)), some (162, false)⟩),(35, ⟨some 165, .bin .lss (.v (.int .u8 191)) (.t 164), some (162, false)⟩),(36, ⟨some 166, .pick (.t 162) (.v (.bool true)) (.t 165),none⟩)]]
def r26 : List AO := [⟨some 2, .asg (.v (.bool false)),none⟩]
def r27 : List AO := [⟨some 167, .mv (.t 0),none⟩,⟨some 168, .slc true 1 (.t 167) (some (.v (.int .i64 4))) none,none⟩,⟨some 0, .asg (.t 168),none⟩]
def r15 : List AO := [⟨some 2, .asg (.v (.bool false)),none⟩]
def l1 : AC := .seq (.seq (.reg r1 [0, 9]) (.cond (.t 9) (.skip) (.exit 0))) (.block 1 (.seq (.reg r2 [0, 3]) (.seq (.seq (.reg r3 [0, 3, 13]) (.cond (.t 13) (.seq (.reg r4 [0]) (.seq (.seq (.reg r5 [0, 24]) (.cond (.t 24) (.seq (.reg r6 [0]) (.seq (.dreg r7 [0, 39]) (.cond (.t 39) (.seq (.reg r8 [0]) (.block 2 (.loop [0] l2))) (.skip)))) (.skip))) (.exit 1))) (.skip))) (.seq (.reg r11 [0, 4]) (.seq (.reg r12 [0, 4, 5]) (.seq (.reg r13 [0, 5, 6]) (.seq (.reg r14 [0, 6, 75]) (.block 4 (.seq (.reg r16 [0, 6, 75, 76]) (.cond (.t 76) (.seq (.seq (.dreg r17 [0, 94]) (.cond (.t 94) (.seq (.reg r18 [2]) (.ret)) (.skip))) (.reg r19 [0])) (.seq (.reg r20 [0, 6, 75, 97]) (.cond (.t 97) (.seq (.seq (.dreg r21 [0, 125]) (.cond (.t 125) (.seq (.reg r22 [2]) (.ret)) (.skip))) (.reg r23 [0])) (.seq (.reg r24 [0, 6, 128]) (.cond (.t 128) (.seq (.seq (.dreg r25 [0, 166]) (.cond (.t 166) (.seq (.reg r26 [2]) (.ret)) (.skip))) (.reg r27 [0])) (.seq (.reg r15 [2]) (.ret))))))))))))))))
def r28 : List AO := [⟨some 2, .asg (.v (.bool true)),none⟩]
def body : AC := .seq (.reg r0 [0]) (.seq (.block 0 (.loop [0] l1)) (.seq (.reg r28 [2]) (.ret)))
def fn : AFun := ⟨[.val], 169, [.tmp 2], [], body⟩
end unicode_utf8_ValidString
namespace slices_ContainsFunc_LValue_Value
def r0 : List AO := [⟨some 4, .asg (.v (.bool false)),none⟩]
def r1 : List AO := [⟨some 5, .mv (.t 0),none⟩,⟨some 6, .mv (.t 1),none⟩,⟨some 7, .call .deep (.v (.clo F.slices_IndexFunc_LValue_Value [] [])) [.t 5, .t 6],none⟩,⟨some 8, .bin .geq (.t 7) (.v (.int .i64 0)),none⟩,⟨some 4, .asg (.t 8),none⟩]
def body : AC := .seq (.reg r0 [0, 1]) (.seq (.reg r1 [4]) (.ret))
def fn : AFun := ⟨[.val, .val], 9, [.tmp 4], [], body⟩
end slices_ContainsFunc_LValue_Value
namespace value_allFormed_S1
def r0 : List AO := [⟨some 1, .box (.t 0),none⟩,⟨some 2, .asg (.v (.bool false)),none⟩]
def r1 : List AO := [⟨some 3, .take 5 true (.t 1),none⟩,⟨some 4, .call .deep (.v (.clo F.value_Formed [] [])) [.t 3],none⟩,⟨some 5, .un .not (.t 4),none⟩,⟨some 2, .asg (.t 5),none⟩]
def body : AC := .seq (.reg r0 [1]) (.seq (.reg r1 [2]) (.ret))
def fn : AFun := ⟨[.val], 6, [.tmp 2], [], body⟩
end value_allFormed_S1
namespace slices_IndexFunc_Lstring_string
def r0 : List AO := [⟨some 4, .asg (.v (.int .i64 0)),none⟩]
def r1 : List AO := [⟨some 6, .mv (.t 0),none⟩,⟨some 7, .len false (.t 6),none⟩,⟨some 8, .mv (.v (.int .i64 0)),none⟩]
def r2 : List AO := [⟨some 9, .bin .lss (.t 8) (.t 7),none⟩]
def r3 : List AO := [⟨some 10, .mv (.t 8),none⟩,⟨some 5, .asg (.t 10),none⟩]
def r4 : List AO := [⟨some 11, .mv (.t 1),none⟩,⟨some 12, .mv (.t 0),none⟩,⟨some 13, .mv (.t 5),none⟩,⟨some 14, .iadr 1 (.t 12) (.t 13),none⟩,⟨some 15, .load 1 false (.t 14),none⟩,⟨some 16, .call .deep (.t 11) [.t 15],none⟩]
def r5 : List AO := [⟨some 17, .mv (.t 5),none⟩,⟨some 4, .asg (.t 17),none⟩]
def r6 : List AO := [⟨some 18, .bin .add (.t 8) (.v (.int .i64 1)),none⟩,⟨some 8, .mv (.t 18),none⟩]
def l1 : AC := .seq (.reg r2 [0, 1, 7, 8, 9]) (.seq (.cond (.t 9) (.skip) (.exit 0)) (.seq (.block 1 (.seq (.reg r3 [0, 1, 5, 7, 8]) (.seq (.reg r4 [0, 1, 5, 7, 8, 16]) (.cond (.t 16) (.seq (.reg r5 [4]) (.ret)) (.skip))))) (.reg r6 [0, 1, 7, 8])))
def r7 : List AO := [⟨some 4, .asg (.v (.int .i64 (-1))),none⟩]
def body : AC := .seq (.reg r0 [0, 1]) (.seq (.seq (.reg r1 [0, 1, 7, 8]) (.block 0 (.loop [0, 1, 7, 8] l1))) (.seq (.reg r7 [4]) (.ret)))
def fn : AFun := ⟨[.val, .val], 19, [.tmp 4], [], body⟩
end slices_IndexFunc_Lstring_string
namespace cmp_Less_string
def r0 : List AO := [⟨some 4, .asg (.v (.bool false)),none⟩]
def r1 : List AO := [⟨some 5, .mv (.t 0),none⟩,⟨some 6, .call .deep (.v (.clo F.cmp_isNaN_string [] [])) [.t 5],none⟩,⟨some 7, .mv (.t 6),none⟩,⟨some 8, .mv (.t 1), some (7, true)⟩,⟨some 9, .call .deep (.v (.clo F.cmp_isNaN_string [] [])) [.t 8], some (7, true)⟩,⟨some 10, .un .not (.t 9), some (7, true)⟩,⟨some 11, .pick (.t 7) (.t 10) (.v (.bool false)),none⟩,⟨some 12, .mv (.t 11),none⟩,⟨some 13, .mv (.t 0), some (12, false)⟩,⟨some 14, .mv (.t 1), some (12, false)⟩,⟨some 15, .bin .lss (.t 13) (.t 14), some (12, false)⟩,⟨some 16, .pick (.t 12) (.v (.bool true)) (.t 15),none⟩,⟨some 4, .asg (.t 16),none⟩]
def body : AC := .seq (.reg r0 [0, 1]) (.seq (.reg r1 [4]) (.ret))
def fn : AFun := ⟨[.val, .val], 17, [.tmp 4], [], body⟩
end cmp_Less_string
namespace slices_isNaN_string
def r0 : List AO := [⟨some 2, .asg (.v (.bool false)),none⟩]
def r1 : List AO := [⟨some 3, .mv (.t 0),none⟩,⟨some 4, .mv (.t 0),none⟩,⟨some 5, .bin .neq (.t 3) (.t 4),none⟩,⟨some 2, .asg (.t 5),none⟩]
def body : AC := .seq (.reg r0 [0]) (.seq (.reg r1 [2]) (.ret))
def fn : AFun := ⟨[.val], 6, [.tmp 2], [], body⟩
end slices_isNaN_string
namespace hallmarkref03_gather
def r0 : List AO := [⟨some 4, .alloc [.av (.int .i64 0), .av (.str []), .av (.str []), .own 5 [], .own 1 []],none⟩]
def r1 : List AO := [⟨some 9, .build [.av (.int .i64 0), .av (.str []), .av (.str []), .own 5 [], .own 1 []] [(0, 1, .v (.int .i64 6))],none⟩,⟨some 5, .alloc [.av (.int .i64 0), .av (.str []), .av (.str []), .own 5 [], .own 1 []],none⟩,⟨none, .store 5 (.t 5) (.t 9),none⟩]
def r2 : List AO := [⟨some 11, .mv (.t 0),none⟩,⟨some 12, .call .deep (.v (.clo F.hallmarkref03_next [] [])) [.t 11, .v (.str []), .v (.bool true)],none⟩,⟨some 10, .mv (.t 12),none⟩,⟨some 13, .ext (.t 10) 0,none⟩,⟨some 14, .ext (.t 10) 1,none⟩,⟨some 6, .asg (.t 13),none⟩,⟨some 7, .asg (.t 14),none⟩]
def r3 : List AO := [⟨some 15, .mv (.t 7),none⟩]
def r4 : List AO := [⟨some 16, .mv (.t 0),none⟩,⟨some 17, .mv (.t 6),none⟩,⟨some 18, .call .deep (.v (.clo F.hallmarkref03_last [] [])) [.t 16, .t 17],none⟩,⟨some 8, .asg (.t 18),none⟩]
def r5 : List AO := [⟨some 19, .fadr 4 (.t 5),none⟩,⟨some 20, .load 1 false (.t 19),none⟩,⟨some 21, .mv (.t 6),none⟩,⟨some 22, .buildS 1 1 [.av (.str [])] [(0, 1, .t 21)],none⟩,⟨some 23, .append 16 1 (.t 20) (.t 22),none⟩,⟨some 24, .fadr 4 (.t 5),none⟩,⟨none, .store 1 (.t 24) (.t 23),none⟩]
def r6 : List Ph := [.bag false [] [1, 8, 30] [(0, ⟨some 25, .fadr 3 (.t 5),none⟩),(1, ⟨some 26, .load 1 false (.t 25),none⟩),(2, ⟨some 27, .mv (.t 1),none⟩),(3, ⟨some 28, .mv (.t 8),none⟩),(4, ⟨some 29, .iadr 5 (.t 27) (.t 28),none⟩),(5, ⟨some 30, .load 5 true (.t 29),none⟩),(6, ⟨some 31, .buildS 1 5 [.av (.int .i64 0), .av (.str []), .av (.str []), .own 5 [], .own 1 []] [(0, 5, .t 30)],none⟩)],.one 7 ⟨some 32, .append 88 5 (.t 26) (.t 31),none⟩,.one 8 ⟨some 33, .fadr 3 (.t 5),none⟩,.one 9 ⟨none, .store 1 (.t 33) (.t 32),none⟩]
def r7 : List AO := [⟨some 35, .mv (.t 0),none⟩,⟨some 36, .mv (.t 6),none⟩,⟨some 37, .call .deep (.v (.clo F.hallmarkref03_next [] [])) [.t 35, .t 36, .v (.bool false)],none⟩,⟨some 34, .mv (.t 37),none⟩,⟨some 38, .ext (.t 34) 0,none⟩,⟨some 39, .ext (.t 34) 1,none⟩,⟨some 6, .asg (.t 38),none⟩,⟨some 7, .asg (.t 39),none⟩]
def l1 : AC := .seq (.seq (.reg r3 [0, 1, 4, 5, 6, 15]) (.cond (.t 15) (.skip) (.exit 0))) (.block 1 (.seq (.reg r4 [0, 1, 4, 5, 6, 8]) (.seq (.reg r5 [0, 1, 4, 5, 6, 8]) (.seq (.dreg r6 [0, 1, 4, 5, 6]) (.reg r7 [0, 1, 4, 5, 6, 7])))))
def r8 : List AO := [⟨some 40, .take 5 true (.t 5),none⟩,⟨none, .store 5 (.t 4) (.t 40),none⟩]
def body : AC := .seq (.reg r0 [0, 1, 4]) (.seq (.reg r1 [0, 1, 4, 5]) (.seq (.reg r2 [0, 1, 4, 5, 6, 7]) (.seq (.block 0 (.loop [0, 1, 4, 5, 6, 7] l1)) (.seq (.reg r8 [4]) (.ret)))))
def fn : AFun := ⟨[.val, .val], 41, [.cell 4 5 true], [], body⟩
end hallmarkref03_gather
namespace hallmarkref03_object
def r0 : List AO := [⟨some 1, .box (.t 0),none⟩,⟨some 2, .asg (.v (.bool false)),none⟩]
def r1 : List AO := [⟨some 3, .fadr 0 (.t 1),none⟩,⟨some 4, .load 1 false (.t 3),none⟩,⟨some 5, .bin .eql (.t 4) (.v (.int .i64 6)),none⟩,⟨some 6, .mv (.t 5),none⟩,⟨some 7, .take 5 true (.t 1), some (6, true)⟩,⟨some 8, .call .deep (.v (.clo F.hallmarkref03_Formed [] [])) [.t 7], some (6, true)⟩,⟨some 9, .pick (.t 6) (.t 8) (.v (.bool false)),none⟩,⟨some 2, .asg (.t 9),none⟩]
def body : AC := .seq (.reg r0 [1]) (.seq (.reg r1 [2]) (.ret))
def fn : AFun := ⟨[.val], 10, [.tmp 2], [], body⟩
end hallmarkref03_object
namespace hallmarkref03_Twins
def r0 : List AO := [⟨some 2, .asgo (.w [.own 5 []] false),none⟩]
def r1 : List AO := [⟨some 6, .buildS 0 5 [.av (.int .i64 0), .av (.str []), .av (.str []), .own 5 [], .own 1 []] [],none⟩,⟨some 3, .asgo (.t 6),none⟩]
def r2 : List AO := [⟨some 4, .asg (.v (.int .i64 0)),none⟩]
def r3 : List AO := [⟨some 7, .mv (.t 4),none⟩,⟨some 8, .mv (.t 0),none⟩,⟨some 9, .len false (.t 8),none⟩,⟨some 10, .bin .lss (.t 7) (.t 9),none⟩]
def r5 : List AO := [⟨some 13, .mv (.t 0),none⟩,⟨some 14, .mv (.t 4),none⟩,⟨some 15, .iadr 5 (.t 13) (.t 14),none⟩,⟨some 16, .load 5 true (.t 15),none⟩,⟨some 17, .call .deep (.v (.clo F.hallmarkref03_Twin [] [])) [.t 16],none⟩,⟨some 5, .alloc [.av (.int .i64 0), .av (.str []), .av (.str []), .own 5 [], .own 1 []],none⟩,⟨none, .store 5 (.t 5) (.t 17),none⟩]
def r6 : List AO := [⟨some 18, .mvt 3,none⟩,⟨some 19, .take 5 true (.t 5),none⟩,⟨some 20, .buildS 1 5 [.av (.int .i64 0), .av (.str []), .av (.str []), .own 5 [], .own 1 []] [(0, 5, .t 19)],none⟩,⟨some 21, .append 88 5 (.t 18) (.t 20),none⟩,⟨some 3, .asgo (.t 21),none⟩]
def r4 : List AO := [⟨some 11, .mv (.t 4),none⟩,⟨some 12, .bin .add (.t 11) (.v (.int .i64 1)),none⟩,⟨some 4, .asg (.t 12),none⟩]
def l1 : AC := .seq (.seq (.reg r3 [0, 3, 4, 10]) (.cond (.t 10) (.skip) (.exit 0))) (.seq (.block 1 (.seq (.reg r5 [0, 3, 4, 5]) (.reg r6 [0, 3, 4]))) (.reg r4 [0, 3, 4]))
def r7 : List AO := [⟨some 22, .mvt 3,none⟩,⟨some 2, .asgo (.t 22),none⟩]
def body : AC := .seq (.reg r0 [0]) (.seq (.reg r1 [0, 3]) (.seq (.seq (.reg r2 [0, 3, 4]) (.block 0 (.loop [0, 3, 4] l1))) (.seq (.reg r7 [2]) (.ret))))
def fn : AFun := ⟨[.val], 23, [.tmp 2], [2, 3], body⟩
end hallmarkref03_Twins
namespace value_deep
def r0 : List AO := [⟨some 2, .box (.t 0),none⟩,⟨some 3, .box (.t 1),none⟩,⟨some 4, .alloc [.av (.int .i64 0), .av (.str []), .av (.str []), .own 5 [], .own 1 []],none⟩]
def r1 : List AO := [⟨some 10, .fadr 4 (.t 3),none⟩,⟨some 11, .load 1 false (.t 10),none⟩,⟨some 12, .len false (.t 11),none⟩,⟨some 13, .mv (.v (.int .i64 0)),none⟩]
def r2 : List AO := [⟨some 14, .bin .lss (.t 13) (.t 12),none⟩]
def r3 : List AO := [⟨some 15, .mv (.t 13),none⟩,⟨some 16, .iadr 1 (.t 11) (.t 13),none⟩,⟨some 17, .load 1 false (.t 16),none⟩,⟨some 5, .asg (.t 15),none⟩,⟨some 6, .asg (.t 17),none⟩]
def r4 : List AO := [⟨some 18, .fadr 3 (.t 3),none⟩,⟨some 19, .load 1 false (.t 18),none⟩,⟨some 20, .mv (.t 5),none⟩,⟨some 21, .iadr 5 (.t 19) (.t 20),none⟩,⟨some 22, .load 5 true (.t 21),none⟩,⟨some 7, .alloc [.av (.int .i64 0), .av (.str []), .av (.str []), .own 5 [], .own 1 []],none⟩,⟨none, .store 5 (.t 7) (.t 22),none⟩]
def r5 : List AO := [⟨some 24, .fadr 4 (.t 2),none⟩,⟨some 25, .load 1 false (.t 24),none⟩,⟨some 26, .mv (.t 6),none⟩,⟨some 27, .call .deep (.v (.clo F.slices_BinarySearch_Lstring_string [] [])) [.t 25, .t 26],none⟩,⟨some 23, .mv (.t 27),none⟩,⟨some 28, .ext (.t 23) 0,none⟩,⟨some 29, .ext (.t 23) 1,none⟩,⟨some 8, .asg (.t 28),none⟩,⟨some 9, .asg (.t 29),none⟩]
def r6 : List AO := [⟨some 30, .mv (.t 9),none⟩,⟨some 31, .mv (.t 30),none⟩,⟨some 32, .fadr 3 (.t 2), some (31, true)⟩,⟨some 33, .load 1 false (.t 32), some (31, true)⟩,⟨some 34, .mv (.t 8), some (31, true)⟩,⟨some 35, .iadr 5 (.t 33) (.t 34), some (31, true)⟩,⟨some 36, .fadr 0 (.t 35), some (31, true)⟩,⟨some 37, .load 1 false (.t 36), some (31, true)⟩,⟨some 38, .bin .eql (.t 37) (.v (.int .i64 6)), some (31, true)⟩,⟨some 39, .pick (.t 31) (.t 38) (.v (.bool false)),none⟩,⟨some 40, .mv (.t 39),none⟩,⟨some 41, .fadr 0 (.t 7), some (40, true)⟩,⟨some 42, .load 1 false (.t 41), some (40, true)⟩,⟨some 43, .bin .eql (.t 42) (.v (.int .i64 6)), some (40, true)⟩,⟨some 44, .pick (.t 40) (.t 43) (.v (.bool false)),none⟩]
def r7 : List Ph := [.bag false [] [8] [(0, ⟨some 45, .fadr 3 (.t 2),none⟩),(1, ⟨some 46, .load 1 false (.t 45),none⟩),(2, ⟨some 47, .mv (.t 8),none⟩),(3, ⟨some 48, .iadr 5 (.t 46) (.t 47),none⟩),(4, ⟨some 49, .loadC 5 (.t 48),none⟩),(5, ⟨some 50, .load 5 true (.t 7),none⟩)],.one 6 ⟨some 51, .callM .deep (.v (.clo F.value_deep [] [])) [.t 49, .t 50],none⟩,.one 7 ⟨none, .store 5 (.t 7) (.t 51),none⟩]
def r8 : List AO := [⟨some 52, .mv (.t 6),none⟩,⟨some 53, .take 5 true (.t 7),none⟩,⟨some 54, .callM .deep (.v (.clo F.value_put [] [])) [.t 2, .t 52, .t 53],none⟩]
def r9 : List AO := [⟨some 55, .bin .add (.t 13) (.v (.int .i64 1)),none⟩,⟨some 13, .mv (.t 55),none⟩]
def l1 : AC := .seq (.reg r2 [2, 3, 4, 11, 12, 13, 14]) (.seq (.cond (.t 14) (.skip) (.exit 0)) (.seq (.block 1 (.seq (.reg r3 [2, 3, 4, 5, 6, 11, 12, 13]) (.seq (.reg r4 [2, 3, 4, 6, 7, 11, 12, 13]) (.seq (.reg r5 [2, 3, 4, 6, 7, 8, 9, 11, 12, 13]) (.seq (.seq (.reg r6 [2, 3, 4, 6, 7, 8, 11, 12, 13, 44]) (.cond (.t 44) (.dreg r7 [2, 3, 4, 6, 7, 11, 12, 13]) (.skip))) (.reg r8 [2, 3, 4, 11, 12, 13])))))) (.reg r9 [2, 3, 4, 11, 12, 13])))
def r10 : List AO := [⟨some 56, .take 5 true (.t 2),none⟩,⟨none, .store 5 (.t 4) (.t 56),none⟩]
def body : AC := .seq (.reg r0 [2, 3, 4]) (.seq (.seq (.reg r1 [2, 3, 4, 11, 12, 13]) (.block 0 (.loop [2, 3, 4, 11, 12, 13] l1))) (.seq (.reg r10 [4]) (.ret)))
def fn : AFun := ⟨[.mv, .val], 57, [.cell 4 5 true], [], body⟩
end value_deep
namespace slices_IndexFunc_LValue_Value
def r0 : List AO := [⟨some 4, .asg (.v (.int .i64 0)),none⟩]
def r1 : List AO := [⟨some 6, .mv (.t 0),none⟩,⟨some 7, .len false (.t 6),none⟩,⟨some 8, .mv (.v (.int .i64 0)),none⟩]
def r2 : List AO := [⟨some 9, .bin .lss (.t 8) (.t 7),none⟩]
def r3 : List AO := [⟨some 10, .mv (.t 8),none⟩,⟨some 5, .asg (.t 10),none⟩]
def r4 : List AO := [⟨some 11, .mv (.t 1),none⟩,⟨some 12, .mv (.t 0),none⟩,⟨some 13, .mv (.t 5),none⟩,⟨some 14, .iadr 5 (.t 12) (.t 13),none⟩,⟨some 15, .load 5 true (.t 14),none⟩,⟨some 16, .call .deep (.t 11) [.t 15],none⟩]
def r5 : List AO := [⟨some 17, .mv (.t 5),none⟩,⟨some 4, .asg (.t 17),none⟩]
def r6 : List AO := [⟨some 18, .bin .add (.t 8) (.v (.int .i64 1)),none⟩,⟨some 8, .mv (.t 18),none⟩]
def l1 : AC := .seq (.reg r2 [0, 1, 7, 8, 9]) (.seq (.cond (.t 9) (.skip) (.exit 0)) (.seq (.block 1 (.seq (.reg r3 [0, 1, 5, 7, 8]) (.seq (.reg r4 [0, 1, 5, 7, 8, 16]) (.cond (.t 16) (.seq (.reg r5 [4]) (.ret)) (.skip))))) (.reg r6 [0, 1, 7, 8])))
def r7 : List AO := [⟨some 4, .asg (.v (.int .i64 (-1))),none⟩]
def body : AC := .seq (.reg r0 [0, 1]) (.seq (.seq (.reg r1 [0, 1, 7, 8]) (.block 0 (.loop [0, 1, 7, 8] l1))) (.seq (.reg r7 [4]) (.ret)))
def fn : AFun := ⟨[.val, .val], 19, [.tmp 4], [], body⟩
end slices_IndexFunc_LValue_Value
namespace hallmarkref03_next
def r0 : List AO := [⟨some 6, .asg (.v (.str [])),none⟩,⟨some 7, .asg (.v (.bool false)),none⟩]
def r1 : List AO := [⟨some 8, .asg (.v (.bool false)),none⟩]
def r2 : List AO := [⟨some 9, .asg (.v (.str [])),none⟩]
def r3 : List AO := [⟨some 10, .asg (.v (.int .i64 0)),none⟩]
def r4 : List AO := [⟨some 11, .mv (.t 10),none⟩,⟨some 12, .mv (.t 0),none⟩,⟨some 13, .len false (.t 12),none⟩,⟨some 14, .bin .lss (.t 11) (.t 13),none⟩]
def r6 : List AO := [⟨some 17, .mv (.t 2),none⟩,⟨some 18, .mv (.t 17),none⟩,⟨some 19, .mv (.t 0), some (18, false)⟩,⟨some 20, .mv (.t 10), some (18, false)⟩,⟨some 21, .iadr 1 (.t 19) (.t 20), some (18, false)⟩,⟨some 22, .load 1 false (.t 21), some (18, false)⟩,⟨some 23, .mv (.t 1), some (18, false)⟩,⟨some 24, .bin .gtr (.t 22) (.t 23), some (18, false)⟩,⟨some 25, .pick (.t 18) (.v (.bool true)) (.t 24),none⟩,⟨some 26, .mv (.t 25),none⟩,⟨some 27, .mv (.t 8), some (26, true)⟩,⟨some 28, .un .not (.t 27), some (26, true)⟩,⟨some 29, .mv (.t 28), some (26, true)⟩,⟨some 30, .mv (.t 0), some (29, false)⟩,⟨some 31, .mv (.t 10), some (29, false)⟩,⟨some 32, .iadr 1 (.t 30) (.t 31), some (29, false)⟩,⟨some 33, .load 1 false (.t 32), some (29, false)⟩,⟨some 34, .mv (.t 9), some (29, false)⟩,⟨some 35, .bin .lss (.t 33) (.t 34), some (29, false)⟩,⟨some 36, .pick (.t 29) (.v (.bool true)) (.t 35), some (26, true)⟩,⟨some 37, .pick (.t 26) (.t 36) (.v (.bool false)),none⟩]
def r7 : List AO := [⟨some 38, .mv (.t 0),none⟩,⟨some 39, .mv (.t 10),none⟩,⟨some 40, .iadr 1 (.t 38) (.t 39),none⟩,⟨some 41, .load 1 false (.t 40),none⟩,⟨some 9, .asg (.t 41),none⟩]
def r8 : List AO := [⟨some 8, .asg (.v (.bool true)),none⟩]
def r5 : List AO := [⟨some 15, .mv (.t 10),none⟩,⟨some 16, .bin .add (.t 15) (.v (.int .i64 1)),none⟩,⟨some 10, .asg (.t 16),none⟩]
def l1 : AC := .seq (.seq (.reg r4 [0, 1, 2, 8, 9, 10, 14]) (.cond (.t 14) (.skip) (.exit 0))) (.seq (.block 1 (.seq (.reg r6 [0, 1, 2, 8, 9, 10, 37]) (.cond (.t 37) (.seq (.reg r7 [0, 1, 2, 9, 10]) (.reg r8 [0, 1, 2, 8, 9, 10])) (.skip)))) (.reg r5 [0, 1, 2, 8, 9, 10]))
def r9 : List AO := [⟨some 42, .mv (.t 9),none⟩,⟨some 43, .mv (.t 8),none⟩,⟨some 6, .asg (.t 42),none⟩,⟨some 7, .asg (.t 43),none⟩]
def body : AC := .seq (.reg r0 [0, 1, 2]) (.seq (.reg r1 [0, 1, 2, 8]) (.seq (.reg r2 [0, 1, 2, 8, 9]) (.seq (.seq (.reg r3 [0, 1, 2, 8, 9, 10]) (.block 0 (.loop [0, 1, 2, 8, 9, 10] l1))) (.seq (.reg r9 [6, 7]) (.ret)))))
def fn : AFun := ⟨[.val, .val, .val], 44, [.tmp 6, .tmp 7], [], body⟩
end hallmarkref03_next
namespace hallmarkref03_last
def r0 : List AO := [⟨some 4, .asg (.v (.int .i64 0)),none⟩]
def r1 : List AO := [⟨some 6, .mv (.t 0),none⟩,⟨some 7, .len false (.t 6),none⟩,⟨some 8, .bin .sub (.t 7) (.v (.int .i64 1)),none⟩,⟨some 5, .asg (.t 8),none⟩]
def r2 : List AO := [⟨some 9, .mv (.t 5),none⟩,⟨some 10, .bin .geq (.t 9) (.v (.int .i64 0)),none⟩]
def r4 : List AO := [⟨some 13, .mv (.t 0),none⟩,⟨some 14, .mv (.t 5),none⟩,⟨some 15, .iadr 1 (.t 13) (.t 14),none⟩,⟨some 16, .load 1 false (.t 15),none⟩,⟨some 17, .mv (.t 1),none⟩,⟨some 18, .bin .eql (.t 16) (.t 17),none⟩]
def r5 : List AO := [⟨some 19, .mv (.t 5),none⟩,⟨some 4, .asg (.t 19),none⟩]
def r3 : List AO := [⟨some 11, .mv (.t 5),none⟩,⟨some 12, .bin .sub (.t 11) (.v (.int .i64 1)),none⟩,⟨some 5, .asg (.t 12),none⟩]
def l1 : AC := .seq (.seq (.reg r2 [0, 1, 5, 10]) (.cond (.t 10) (.skip) (.exit 0))) (.seq (.block 1 (.seq (.reg r4 [0, 1, 5, 18]) (.cond (.t 18) (.seq (.reg r5 [4]) (.ret)) (.skip)))) (.reg r3 [0, 1, 5]))
def r6 : List AO := [⟨some 4, .asg (.v (.int .i64 (-1))),none⟩]
def body : AC := .seq (.reg r0 [0, 1]) (.seq (.seq (.reg r1 [0, 1, 5]) (.block 0 (.loop [0, 1, 5] l1))) (.seq (.reg r6 [4]) (.ret)))
def fn : AFun := ⟨[.val, .val], 20, [.tmp 4], [], body⟩
end hallmarkref03_last
namespace unicode_utf8_word_string
def r0 : List AO := [⟨some 2, .asg (.v (.int .u64 0)),none⟩]
def r1 : List Ph := [.bag false [] [] [(0, ⟨some 3, .mv (.t 0),none⟩),(1, ⟨some 4, .idxS (.t 3) (.v (.int .i64 0)),none⟩),(2, ⟨some 5, .conv (.int .u64) (.t 4),none⟩),(3, ⟨some 6, .mv (.t 0),none⟩),(4, ⟨some 7, .idxS (.t 6) (.v (.int .i64 1)),none⟩),(5, ⟨some 8, .conv (.int .u64) (.t 7),none⟩),(6, ⟨some 9, .bin .shl (.t 8) (.v (.int .u64 8)),none⟩),(7, ⟨some 10, .bin .or (.t 5) (.t 9),none⟩),(8, ⟨some 11, .mv (.t 0),none⟩),(9, ⟨some 12, .idxS (.t 11) (.v (.int .i64 2)),none⟩),(10, ⟨some 13, .conv (.int .u64) (.t 12),none⟩),(11, ⟨some 14, .bin .shl (.t 13) (.v (.int .u64 16)),none⟩),(12, ⟨some 15, .bin .or (.t 10) (.t 14),none⟩),(13, ⟨some 16, .mv (.t 0),none⟩),(14, ⟨some 17, .idxS (.t 16) (.v (.int .i64 3)),none⟩),(15, ⟨some 18, .conv (.int .u64) (.t 17),none⟩),(16, ⟨some 19, .bin .shl (.t 18) (.v (.int .u64 24)),none⟩),(17, ⟨some 20, .bin .or (.t 15) (.t 19),none⟩),(18, ⟨some 2, .asg (.t 20),none⟩)]]
def r2 : List Ph := [.bag false [] [] [(0, ⟨some 21, .mv (.t 0),none⟩),(1, ⟨some 22, .idxS (.t 21) (.v (.int .i64 0)),none⟩),(2, ⟨some 23, .conv (.int .u64) (.t 22),none⟩),(3, ⟨some 24, .mv (.t 0),none⟩),(4, ⟨some 25, .idxS (.t 24) (.v (.int .i64 1)),none⟩),(5, ⟨some 26, .conv (.int .u64) (.t 25),none⟩),(6, ⟨some 27, .bin .shl (.t 26) (.v (.int .u64 8)),none⟩),(7, ⟨some 28, .bin .or (.t 23) (.t 27),none⟩),(8, ⟨some 29, .mv (.t 0),none⟩),(9, ⟨some 30, .idxS (.t 29) (.v (.int .i64 2)),none⟩),(10, ⟨some 31, .conv (.int .u64) (.t 30),none⟩),(11, ⟨some 32, .bin .shl (.t 31) (.v (.int .u64 16)),none⟩),(12, ⟨some 33, .bin .or (.t 28) (.t 32),none⟩),(13, ⟨some 34, .mv (.t 0),none⟩),(14, ⟨some 35, .idxS (.t 34) (.v (.int .i64 3)),none⟩),(15, ⟨some 36, .conv (.int .u64) (.t 35),none⟩),(16, ⟨some 37, .bin .shl (.t 36) (.v (.int .u64 24)),none⟩),(17, ⟨some 38, .bin .or (.t 33) (.t 37),none⟩),(18, ⟨some 39, .mv (.t 0),none⟩),(19, ⟨some 40, .idxS (.t 39) (.v (.int .i64 4)),none⟩),(20, ⟨some 41, .conv (.int .u64) (.t 40),none⟩),(21, ⟨some 42, .bin .shl (.t 41) (.v (.int .u64 32)),none⟩),(22, ⟨some 43, .bin .or (.t 38) (.t 42),none⟩),(23, ⟨some 44, .mv (.t 0),none⟩),(24, ⟨some 45, .idxS (.t 44) (.v (.int .i64 5)),none⟩),(25, ⟨some 46, .conv (.int .u64) (.t 45),none⟩),(26, ⟨some 47, .bin .shl (.t 46) (.v (.int .u64 40)),none⟩),(27, ⟨some 48, .bin .or (.t 43) (.t 47),none⟩),(28, ⟨some 49, .mv (.t 0),none⟩),(29, ⟨some 50, .idxS (.t 49) (.v (.int .i64 6)),none⟩),(30, ⟨some 51, .conv (.int .u64) (.t 50),none⟩),(31, ⟨some 52, .bin .shl (.t 51) (.v (.int .u64 48)),none⟩),(32, ⟨some 53, .bin .or (.t 48) (.t 52),none⟩),(33, ⟨some 54, .mv (.t 0),none⟩),(34, ⟨some 55, .idxS (.t 54) (.v (.int .i64 7)),none⟩),(35, ⟨some 56, .conv (.int .u64) (.t 55),none⟩),(36, ⟨some 57, .bin .shl (.t 56) (.v (.int .u64 56)),none⟩),(37, ⟨some 58, .bin .or (.t 53) (.t 57),none⟩),(38, ⟨some 2, .asg (.t 58),none⟩)]]
def body : AC := .seq (.reg r0 [0]) (.seq (.cond (.v (.bool false)) (.seq (.dreg r1 [2]) (.ret)) (.skip)) (.seq (.dreg r2 [2]) (.ret)))
def fn : AFun := ⟨[.val], 59, [.tmp 2], [], body⟩
end unicode_utf8_word_string
namespace slices_Clone_Lstring_string
def r0 : List AO := [⟨some 2, .asgo (.w [.own 1 []] false),none⟩]
def r1 : List AO := [⟨some 3, .mv (.t 0),none⟩,⟨some 4, .isnil .sl false (.t 3),none⟩]
def r2 : List AO := [⟨some 2, .asgo (.w [.own 1 []] false),none⟩]
def r3 : List AO := [⟨some 5, .buildS 0 1 [.av (.str [])] [],none⟩,⟨some 6, .mv (.t 0),none⟩,⟨some 7, .append 16 1 (.t 5) (.t 6),none⟩,⟨some 2, .asgo (.t 7),none⟩]
def body : AC := .seq (.reg r0 [0]) (.seq (.seq (.reg r1 [0, 4]) (.cond (.t 4) (.seq (.reg r2 [2]) (.ret)) (.skip))) (.seq (.reg r3 [2]) (.ret)))
def fn : AFun := ⟨[.val], 8, [.tmp 2], [2], body⟩
end slices_Clone_Lstring_string
namespace slices_Clone_LValue_Value
def r0 : List AO := [⟨some 2, .asgo (.w [.own 5 []] false),none⟩]
def r1 : List AO := [⟨some 3, .mv (.t 0),none⟩,⟨some 4, .isnil .sl false (.t 3),none⟩]
def r2 : List AO := [⟨some 2, .asgo (.w [.own 5 []] false),none⟩]
def r3 : List AO := [⟨some 5, .buildS 0 5 [.av (.int .i64 0), .av (.str []), .av (.str []), .own 5 [], .own 1 []] [],none⟩,⟨some 6, .mv (.t 0),none⟩,⟨some 7, .append 88 5 (.t 5) (.t 6),none⟩,⟨some 2, .asgo (.t 7),none⟩]
def body : AC := .seq (.reg r0 [0]) (.seq (.seq (.reg r1 [0, 4]) (.cond (.t 4) (.seq (.reg r2 [2]) (.ret)) (.skip))) (.seq (.reg r3 [2]) (.ret)))
def fn : AFun := ⟨[.val], 8, [.tmp 2], [2], body⟩
end slices_Clone_LValue_Value
end Hm
