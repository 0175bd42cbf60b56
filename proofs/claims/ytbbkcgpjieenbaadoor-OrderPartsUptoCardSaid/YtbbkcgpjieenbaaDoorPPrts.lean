/- The cleaned code of the functions that the law reaches, printed by program. Conditions: none (definitions). -/
import Derived.Test.YtbbkcgpjieenbaaDoorHA
set_option maxRecDepth 100000
namespace Hm
namespace F
abbrev hallmarkref03_Formed : Nat := 7
abbrev value_Cmp : Nat := 13
abbrev hallmarkref03_Number : Nat := 17
abbrev hallmarkref03_UTF : Nat := 18
abbrev hallmarkref03_Rise : Nat := 19
abbrev hallmarkref03_All : Nat := 20
abbrev value_Twin : Nat := 22
abbrev value_side_alike : Nat := 35
abbrev value_side_number : Nat := 36
abbrev value_side_text : Nat := 37
abbrev value_side_array : Nat := 38
abbrev value_side_object : Nat := 39
abbrev cmp_Compare_int : Nat := 40
abbrev hallmarkref03_width : Nat := 42
abbrev tens_Cmp : Nat := 46
abbrev strings_Compare : Nat := 47
abbrev slices_CompareFunc_LValue_LValue_Value_Value : Nat := 48
abbrev slices_Compare_Lstring_string : Nat := 49
abbrev cmp_Or_int : Nat := 50
abbrev cmp_isNaN_int : Nat := 51
abbrev hallmarkref03_trail : Nat := 53
abbrev tens_Formed : Nat := 54
abbrev tens_split : Nat := 55
abbrev tens_size : Nat := 56
abbrev cmp_Compare_string : Nat := 57
abbrev cmp_isNaN_string : Nat := 60
abbrev value_Formed : Nat := 63
abbrev value_Same : Nat := 82
abbrev value_empty : Nat := 83
abbrev utf_Valid : Nat := 84
abbrev value_allFormed : Nat := 85
abbrev value_rise : Nat := 86
abbrev unicode_utf8_ValidString : Nat := 111
abbrev slices_ContainsFunc_LValue_Value : Nat := 112
abbrev value_allFormed_S1 : Nat := 113
abbrev slices_IndexFunc_LValue_Value : Nat := 124
abbrev unicode_utf8_word_string : Nat := 127
abbrev hallmarkkit_SameStrings : Nat := 156
abbrev hallmarkkit_SameValue : Nat := 226
abbrev hallmarkkit_SameValues : Nat := 256
abbrev hallmarklaw07_OrderKnown : Nat := 383
abbrev hallmarklaw07_word : Nat := 384
abbrev hallmarklaw07_whole : Nat := 385
abbrev order_SortBy : Nat := 386
abbrev order_Unique : Nat := 387
abbrev order_Group : Nat := 388
abbrev order_Merge : Nat := 389
abbrev order_Least : Nat := 390
abbrev order_Greatest : Nat := 391
abbrev order_Search : Nat := 392
abbrev order_Sort : Nat := 393
abbrev hallmarklaw07_OrderParts : Nat := 402
abbrev order_pairs : Nat := 404
abbrev order_formed : Nat := 405
abbrev order_rises : Nat := 406
abbrev order_twins : Nat := 407
abbrev order_merged_Value : Nat := 408
abbrev order_best : Nat := 409
abbrev order_Least_S1 : Nat := 410
abbrev order_Greatest_S1 : Nat := 411
abbrev order_sorted_Value : Nat := 412
abbrev order_sorted_order_pair : Nat := 414
abbrev order_pairs_S1 : Nat := 415
abbrev order_merged_order_pair : Nat := 416
abbrev slices_Clone_Lstring_string : Nat := 43
abbrev slices_Clone_LValue_Value : Nat := 44
abbrev internal_bytealg_CompareString : Nat := 58
end F
namespace hallmarkref03_Formed
def r0 : List AO := [⟨some 1, .box (.t 0),none⟩,⟨some 2, .asg (.v (.bool false)),none⟩]
def r1 : List AO := [⟨some 3, .fadr 0 (.t 1),none⟩,⟨some 4, .load 1 false (.t 3),none⟩,⟨some 5, .bin .lss (.t 4) (.v (.int .i64 0)),none⟩,⟨some 6, .mv (.t 5),none⟩,⟨some 7, .fadr 0 (.t 1), some (6, false)⟩,⟨some 8, .load 1 false (.t 7), some (6, false)⟩,⟨some 9, .bin .gtr (.t 8) (.v (.int .i64 6)), some (6, false)⟩,⟨some 10, .pick (.t 6) (.v (.bool true)) (.t 9),none⟩]
def r2 : List AO := [⟨some 2, .asg (.v (.bool false)),none⟩]
def r3 : List AO := [⟨some 11, .fadr 0 (.t 1),none⟩,⟨some 12, .load 1 false (.t 11),none⟩,⟨some 13, .bin .eql (.t 12) (.v (.int .i64 3)),none⟩,⟨some 14, .mv (.t 13),none⟩,⟨some 15, .fadr 1 (.t 1), some (14, true)⟩,⟨some 16, .load 1 false (.t 15), some (14, true)⟩,⟨some 17, .call .deep (.v (.clo F.hallmarkref03_Number [] [])) [.t 16], some (14, true)⟩,⟨some 18, .un .not (.t 17), some (14, true)⟩,⟨some 19, .pick (.t 14) (.t 18) (.v (.bool false)),none⟩,⟨some 20, .mv (.t 19),none⟩,⟨some 21, .fadr 0 (.t 1), some (20, false)⟩,⟨some 22, .load 1 false (.t 21), some (20, false)⟩,⟨some 23, .bin .neq (.t 22) (.v (.int .i64 3)), some (20, false)⟩,⟨some 24, .mv (.t 23), some (20, false)⟩,⟨some 25, .fadr 1 (.t 1), some (24, true)⟩,⟨some 26, .load 1 false (.t 25), some (24, true)⟩,⟨some 27, .bin .neq (.t 26) (.v (.str [])), some (24, true)⟩,⟨some 28, .pick (.t 24) (.t 27) (.v (.bool false)), some (20, false)⟩,⟨some 29, .pick (.t 20) (.v (.bool true)) (.t 28),none⟩]
def r4 : List AO := [⟨some 2, .asg (.v (.bool false)),none⟩]
def r5 : List AO := [⟨some 30, .fadr 0 (.t 1),none⟩,⟨some 31, .load 1 false (.t 30),none⟩,⟨some 32, .bin .eql (.t 31) (.v (.int .i64 4)),none⟩,⟨some 33, .mv (.t 32),none⟩,⟨some 34, .fadr 2 (.t 1), some (33, true)⟩,⟨some 35, .load 1 false (.t 34), some (33, true)⟩,⟨some 36, .call .deep (.v (.clo F.hallmarkref03_UTF [] [])) [.t 35], some (33, true)⟩,⟨some 37, .un .not (.t 36), some (33, true)⟩,⟨some 38, .pick (.t 33) (.t 37) (.v (.bool false)),none⟩,⟨some 39, .mv (.t 38),none⟩,⟨some 40, .fadr 0 (.t 1), some (39, false)⟩,⟨some 41, .load 1 false (.t 40), some (39, false)⟩,⟨some 42, .bin .neq (.t 41) (.v (.int .i64 4)), some (39, false)⟩,⟨some 43, .mv (.t 42), some (39, false)⟩,⟨some 44, .fadr 2 (.t 1), some (43, true)⟩,⟨some 45, .load 1 false (.t 44), some (43, true)⟩,⟨some 46, .bin .neq (.t 45) (.v (.str [])), some (43, true)⟩,⟨some 47, .pick (.t 43) (.t 46) (.v (.bool false)), some (39, false)⟩,⟨some 48, .pick (.t 39) (.v (.bool true)) (.t 47),none⟩]
def r6 : List AO := [⟨some 2, .asg (.v (.bool false)),none⟩]
def r7 : List AO := [⟨some 49, .fadr 0 (.t 1),none⟩,⟨some 50, .load 1 false (.t 49),none⟩,⟨some 51, .bin .lss (.t 50) (.v (.int .i64 5)),none⟩,⟨some 52, .mv (.t 51),none⟩,⟨some 53, .fadr 3 (.t 1), some (52, true)⟩,⟨some 54, .load 1 false (.t 53), some (52, true)⟩,⟨some 55, .len false (.t 54), some (52, true)⟩,⟨some 56, .bin .gtr (.t 55) (.v (.int .i64 0)), some (52, true)⟩,⟨some 57, .pick (.t 52) (.t 56) (.v (.bool false)),none⟩,⟨some 58, .mv (.t 57),none⟩,⟨some 59, .fadr 0 (.t 1), some (58, false)⟩,⟨some 60, .load 1 false (.t 59), some (58, false)⟩,⟨some 61, .bin .lss (.t 60) (.v (.int .i64 6)), some (58, false)⟩,⟨some 62, .mv (.t 61), some (58, false)⟩,⟨some 63, .fadr 4 (.t 1), some (62, true)⟩,⟨some 64, .load 1 false (.t 63), some (62, true)⟩,⟨some 65, .len false (.t 64), some (62, true)⟩,⟨some 66, .bin .gtr (.t 65) (.v (.int .i64 0)), some (62, true)⟩,⟨some 67, .pick (.t 62) (.t 66) (.v (.bool false)), some (58, false)⟩,⟨some 68, .pick (.t 58) (.v (.bool true)) (.t 67),none⟩]
def r8 : List AO := [⟨some 2, .asg (.v (.bool false)),none⟩]
def r9 : List AO := [⟨some 69, .fadr 0 (.t 1),none⟩,⟨some 70, .load 1 false (.t 69),none⟩,⟨some 71, .bin .eql (.t 70) (.v (.int .i64 6)),none⟩,⟨some 72, .mv (.t 71),none⟩,⟨some 73, .fadr 4 (.t 1), some (72, true)⟩,⟨some 74, .load 1 false (.t 73), some (72, true)⟩,⟨some 75, .len false (.t 74), some (72, true)⟩,⟨some 76, .fadr 3 (.t 1), some (72, true)⟩,⟨some 77, .load 1 false (.t 76), some (72, true)⟩,⟨some 78, .len false (.t 77), some (72, true)⟩,⟨some 79, .bin .neq (.t 75) (.t 78), some (72, true)⟩,⟨some 80, .mv (.t 79), some (72, true)⟩,⟨some 81, .fadr 4 (.t 1), some (80, false)⟩,⟨some 82, .load 1 false (.t 81), some (80, false)⟩,⟨some 83, .call .deep (.v (.clo F.hallmarkref03_Rise [] [])) [.t 82], some (80, false)⟩,⟨some 84, .un .not (.t 83), some (80, false)⟩,⟨some 85, .pick (.t 80) (.v (.bool true)) (.t 84), some (72, true)⟩,⟨some 86, .pick (.t 72) (.t 85) (.v (.bool false)),none⟩]
def r10 : List AO := [⟨some 2, .asg (.v (.bool false)),none⟩]
def r11 : List AO := [⟨some 87, .fadr 3 (.t 1),none⟩,⟨some 88, .take 1 false (.t 87),none⟩,⟨some 89, .call .deep (.v (.clo F.hallmarkref03_All [] [])) [.t 88],none⟩,⟨some 2, .asg (.t 89),none⟩]
def body : AC := .seq (.reg r0 [1]) (.seq (.seq (.reg r1 [1, 10]) (.cond (.t 10) (.seq (.reg r2 [2]) (.ret)) (.skip))) (.seq (.seq (.reg r3 [1, 29]) (.cond (.t 29) (.seq (.reg r4 [2]) (.ret)) (.skip))) (.seq (.seq (.reg r5 [1, 48]) (.cond (.t 48) (.seq (.reg r6 [2]) (.ret)) (.skip))) (.seq (.seq (.reg r7 [1, 68]) (.cond (.t 68) (.seq (.reg r8 [2]) (.ret)) (.skip))) (.seq (.seq (.reg r9 [1, 86]) (.cond (.t 86) (.seq (.reg r10 [2]) (.ret)) (.skip))) (.seq (.reg r11 [2]) (.ret)))))))
def fn : AFun := ⟨[.val], 90, [.tmp 2], [], body⟩
end hallmarkref03_Formed
namespace value_Cmp
def r0 : List AO := [⟨some 2, .box (.t 0),none⟩,⟨some 3, .box (.t 1),none⟩,⟨some 4, .asg (.v (.int .i64 0)),none⟩]
def r1 : List AO := [⟨some 6, .build [.av .nilf, .av .nilf, .av .nilf, .av .nilf, .av .nilf, .av .nilf, .av .nilf] [(0, 1, .v (.clo F.value_side_alike [] [])), (1, 1, .v (.clo F.value_side_alike [] [])), (2, 1, .v (.clo F.value_side_alike [] [])), (3, 1, .v (.clo F.value_side_number [] [])), (4, 1, .v (.clo F.value_side_text [] [])), (5, 1, .v (.clo F.value_side_array [] [])), (6, 1, .v (.clo F.value_side_object [] []))],none⟩,⟨some 5, .alloc [.av .nilf, .av .nilf, .av .nilf, .av .nilf, .av .nilf, .av .nilf, .av .nilf],none⟩,⟨none, .store 7 (.t 5) (.t 6),none⟩]
def r2 : List AO := [⟨some 7, .fadr 0 (.t 2),none⟩,⟨some 8, .load 1 false (.t 7),none⟩,⟨some 9, .fadr 0 (.t 3),none⟩,⟨some 10, .load 1 false (.t 9),none⟩,⟨some 11, .bin .neq (.t 8) (.t 10),none⟩,⟨some 12, .mv (.t 11),none⟩,⟨some 13, .fadr 0 (.t 2), some (12, false)⟩,⟨some 14, .load 1 false (.t 13), some (12, false)⟩,⟨some 15, .bin .lss (.t 14) (.v (.int .i64 0)), some (12, false)⟩,⟨some 16, .pick (.t 12) (.v (.bool true)) (.t 15),none⟩,⟨some 17, .mv (.t 16),none⟩,⟨some 18, .fadr 0 (.t 2), some (17, false)⟩,⟨some 19, .load 1 false (.t 18), some (17, false)⟩,⟨some 20, .bin .geq (.t 19) (.v (.int .i64 7)), some (17, false)⟩,⟨some 21, .pick (.t 17) (.v (.bool true)) (.t 20),none⟩]
def r3 : List AO := [⟨some 22, .fadr 0 (.t 2),none⟩,⟨some 23, .load 1 false (.t 22),none⟩,⟨some 24, .fadr 0 (.t 3),none⟩,⟨some 25, .load 1 false (.t 24),none⟩,⟨some 26, .call .deep (.v (.clo F.cmp_Compare_int [] [])) [.t 23, .t 25],none⟩,⟨some 4, .asg (.t 26),none⟩]
def r4 : List Ph := [.bag false [] [31, 32] [(0, ⟨some 27, .fadr 0 (.t 2),none⟩),(1, ⟨some 28, .load 1 false (.t 27),none⟩),(2, ⟨some 29, .iadrA 7 1 (.t 5) (.t 28),none⟩),(3, ⟨some 30, .load 1 false (.t 29),none⟩),(4, ⟨some 31, .load 5 true (.t 2),none⟩),(5, ⟨some 32, .load 5 true (.t 3),none⟩),(6, ⟨some 33, .call .deep (.t 30) [.t 31, .t 32],none⟩),(7, ⟨some 4, .asg (.t 33),none⟩)]]
def body : AC := .seq (.reg r0 [2, 3]) (.seq (.reg r1 [2, 3, 5]) (.seq (.seq (.reg r2 [2, 3, 5, 21]) (.cond (.t 21) (.seq (.reg r3 [4]) (.ret)) (.skip))) (.seq (.dreg r4 [4]) (.ret))))
def fn : AFun := ⟨[.val, .val], 34, [.tmp 4], [], body⟩
end value_Cmp
namespace hallmarkref03_Number
def r0 : List AO := [⟨some 2, .asg (.v (.bool false)),none⟩]
def r1 : List AO := [⟨some 5, .mv (.t 0),none⟩,⟨some 3, .asg (.t 5),none⟩]
def r2 : List AO := [⟨some 6, .mv (.t 0),none⟩,⟨some 7, .len true (.t 6),none⟩,⟨some 8, .bin .gtr (.t 7) (.v (.int .i64 0)),none⟩,⟨some 9, .mv (.t 8),none⟩,⟨some 10, .mv (.t 0), some (9, true)⟩,⟨some 11, .idxS (.t 10) (.v (.int .i64 0)), some (9, true)⟩,⟨some 12, .bin .eql (.t 11) (.v (.int .u8 45)), some (9, true)⟩,⟨some 13, .pick (.t 9) (.t 12) (.v (.bool false)),none⟩]
def r3 : List AO := [⟨some 14, .mv (.t 0),none⟩,⟨some 15, .slc true 1 (.t 14) (some (.v (.int .i64 1))) none,none⟩,⟨some 3, .asg (.t 15),none⟩]
def r4 : List AO := [⟨some 4, .asg (.v (.int .i64 0)),none⟩]
def r5 : List AO := [⟨some 16, .mv (.t 4),none⟩,⟨some 17, .mv (.t 3),none⟩,⟨some 18, .len true (.t 17),none⟩,⟨some 19, .bin .lss (.t 16) (.t 18),none⟩]
def r7 : List AO := [⟨some 22, .mv (.t 3),none⟩,⟨some 23, .mv (.t 4),none⟩,⟨some 24, .idxS (.t 22) (.t 23),none⟩,⟨some 25, .bin .lss (.t 24) (.v (.int .u8 48)),none⟩,⟨some 26, .mv (.t 25),none⟩,⟨some 27, .mv (.t 3), some (26, false)⟩,⟨some 28, .mv (.t 4), some (26, false)⟩,⟨some 29, .idxS (.t 27) (.t 28), some (26, false)⟩,⟨some 30, .bin .gtr (.t 29) (.v (.int .u8 57)), some (26, false)⟩,⟨some 31, .pick (.t 26) (.v (.bool true)) (.t 30),none⟩]
def r8 : List AO := [⟨some 2, .asg (.v (.bool false)),none⟩]
def r6 : List AO := [⟨some 20, .mv (.t 4),none⟩,⟨some 21, .bin .add (.t 20) (.v (.int .i64 1)),none⟩,⟨some 4, .asg (.t 21),none⟩]
def l1 : AC := .seq (.seq (.reg r5 [0, 3, 4, 19]) (.cond (.t 19) (.skip) (.exit 0))) (.seq (.block 1 (.seq (.reg r7 [0, 3, 4, 31]) (.cond (.t 31) (.seq (.reg r8 [2]) (.ret)) (.skip)))) (.reg r6 [0, 3, 4]))
def r9 : List AO := [⟨some 32, .mv (.t 3),none⟩,⟨some 33, .len true (.t 32),none⟩,⟨some 34, .bin .eql (.t 33) (.v (.int .i64 0)),none⟩,⟨some 35, .mv (.t 34),none⟩,⟨some 36, .mv (.t 3), some (35, false)⟩,⟨some 37, .idxS (.t 36) (.v (.int .i64 0)), some (35, false)⟩,⟨some 38, .bin .eql (.t 37) (.v (.int .u8 48)), some (35, false)⟩,⟨some 39, .mv (.t 38), some (35, false)⟩,⟨some 40, .mv (.t 0), some (39, true)⟩,⟨some 41, .bin .neq (.t 40) (.v (.str [48])), some (39, true)⟩,⟨some 42, .pick (.t 39) (.t 41) (.v (.bool false)), some (35, false)⟩,⟨some 43, .pick (.t 35) (.v (.bool true)) (.t 42),none⟩]
def r10 : List AO := [⟨some 2, .asg (.v (.bool false)),none⟩]
def r11 : List AO := [⟨some 2, .asg (.v (.bool true)),none⟩]
def body : AC := .seq (.reg r0 [0]) (.seq (.reg r1 [0, 3]) (.seq (.seq (.reg r2 [0, 3, 13]) (.cond (.t 13) (.reg r3 [0, 3]) (.skip))) (.seq (.seq (.reg r4 [0, 3, 4]) (.block 0 (.loop [0, 3, 4] l1))) (.seq (.seq (.reg r9 [43]) (.cond (.t 43) (.seq (.reg r10 [2]) (.ret)) (.skip))) (.seq (.reg r11 [2]) (.ret))))))
def fn : AFun := ⟨[.val], 44, [.tmp 2], [], body⟩
end hallmarkref03_Number
namespace hallmarkref03_UTF
def r0 : List AO := [⟨some 2, .asg (.v (.bool false)),none⟩]
def r1 : List AO := [⟨some 3, .asg (.v (.int .i64 0)),none⟩]
def r2 : List AO := [⟨some 5, .mv (.t 3),none⟩,⟨some 6, .mv (.t 0),none⟩,⟨some 7, .len true (.t 6),none⟩,⟨some 8, .bin .lss (.t 5) (.t 7),none⟩]
def r3 : List AO := [⟨some 9, .mv (.t 0),none⟩,⟨some 10, .mv (.t 3),none⟩,⟨some 11, .call .deep (.v (.clo F.hallmarkref03_width [] [])) [.t 9, .t 10],none⟩,⟨some 4, .asg (.t 11),none⟩]
def r4 : List AO := [⟨some 12, .mv (.t 4),none⟩,⟨some 13, .bin .eql (.t 12) (.v (.int .i64 0)),none⟩]
def r5 : List AO := [⟨some 2, .asg (.v (.bool false)),none⟩]
def r6 : List AO := [⟨some 14, .mv (.t 3),none⟩,⟨some 15, .mv (.t 4),none⟩,⟨some 16, .bin .add (.t 14) (.t 15),none⟩,⟨some 3, .asg (.t 16),none⟩]
def l1 : AC := .seq (.seq (.reg r2 [0, 3, 8]) (.cond (.t 8) (.skip) (.exit 0))) (.block 1 (.seq (.reg r3 [0, 3, 4]) (.seq (.seq (.reg r4 [0, 3, 4, 13]) (.cond (.t 13) (.seq (.reg r5 [2]) (.ret)) (.skip))) (.reg r6 [0, 3]))))
def r7 : List AO := [⟨some 2, .asg (.v (.bool true)),none⟩]
def body : AC := .seq (.reg r0 [0]) (.seq (.seq (.reg r1 [0, 3]) (.block 0 (.loop [0, 3] l1))) (.seq (.reg r7 [2]) (.ret)))
def fn : AFun := ⟨[.val], 17, [.tmp 2], [], body⟩
end hallmarkref03_UTF
namespace hallmarkref03_Rise
def r0 : List AO := [⟨some 2, .asg (.v (.bool false)),none⟩]
def r1 : List AO := [⟨some 3, .asg (.v (.int .i64 0)),none⟩]
def r2 : List AO := [⟨some 4, .mv (.t 3),none⟩,⟨some 5, .mv (.t 0),none⟩,⟨some 6, .len false (.t 5),none⟩,⟨some 7, .bin .lss (.t 4) (.t 6),none⟩]
def r4 : List AO := [⟨some 10, .mv (.t 0),none⟩,⟨some 11, .mv (.t 3),none⟩,⟨some 12, .iadr 1 (.t 10) (.t 11),none⟩,⟨some 13, .load 1 false (.t 12),none⟩,⟨some 14, .call .deep (.v (.clo F.hallmarkref03_UTF [] [])) [.t 13],none⟩,⟨some 15, .un .not (.t 14),none⟩]
def r5 : List AO := [⟨some 2, .asg (.v (.bool false)),none⟩]
def r6 : List Ph := [.bag false [] [] [(0, ⟨some 16, .mv (.t 3),none⟩),(1, ⟨some 17, .bin .gtr (.t 16) (.v (.int .i64 0)),none⟩),(2, ⟨some 18, .mv (.t 17),none⟩),(3, ⟨some 19, .mv (.t 0), some (18, true)⟩),(4, ⟨some 20, .mv (.t 3), some (18, true)⟩),(5, ⟨some 21, .bin .sub (.t 20) (.v (.int .i64 1)), some (18, true)⟩),(6, ⟨some 22, .iadr 1 (.t 19) (.t 21), some (18, true)⟩),(7, ⟨some 23, .load 1 false (.t 22), some (18, true)⟩),(8, ⟨some 24, .mv (.t 0), some (18, true)⟩),(9, ⟨some 25, .mv (.t 3), some (18, true)⟩),(10, ⟨some 26, .iadr 1 (.t 24) (.t 25), some (18, true)⟩),(11, ⟨some 27, .load 1 false (.t 26), some (18, true)⟩),(12, ⟨some 28, .bin .geq (.t 23) (.t 27), some (18, true)⟩),(13, ⟨some 29, .pick (.t 18) (.t 28) (.v (.bool false)),none⟩)]]
def r7 : List AO := [⟨some 2, .asg (.v (.bool false)),none⟩]
def r3 : List AO := [⟨some 8, .mv (.t 3),none⟩,⟨some 9, .bin .add (.t 8) (.v (.int .i64 1)),none⟩,⟨some 3, .asg (.t 9),none⟩]
def l1 : AC := .seq (.seq (.reg r2 [0, 3, 7]) (.cond (.t 7) (.skip) (.exit 0))) (.seq (.block 1 (.seq (.seq (.reg r4 [0, 3, 15]) (.cond (.t 15) (.seq (.reg r5 [2]) (.ret)) (.skip))) (.seq (.dreg r6 [0, 3, 29]) (.cond (.t 29) (.seq (.reg r7 [2]) (.ret)) (.skip))))) (.reg r3 [0, 3]))
def r8 : List AO := [⟨some 2, .asg (.v (.bool true)),none⟩]
def body : AC := .seq (.reg r0 [0]) (.seq (.seq (.reg r1 [0, 3]) (.block 0 (.loop [0, 3] l1))) (.seq (.reg r8 [2]) (.ret)))
def fn : AFun := ⟨[.val], 30, [.tmp 2], [], body⟩
end hallmarkref03_Rise
namespace hallmarkref03_All
def r0 : List AO := [⟨some 2, .asg (.v (.bool false)),none⟩]
def r1 : List AO := [⟨some 3, .asg (.v (.int .i64 0)),none⟩]
def r2 : List AO := [⟨some 4, .mv (.t 3),none⟩,⟨some 5, .mv (.t 0),none⟩,⟨some 6, .len false (.t 5),none⟩,⟨some 7, .bin .lss (.t 4) (.t 6),none⟩]
def r4 : List AO := [⟨some 10, .mv (.t 0),none⟩,⟨some 11, .mv (.t 3),none⟩,⟨some 12, .iadr 5 (.t 10) (.t 11),none⟩,⟨some 13, .load 5 true (.t 12),none⟩,⟨some 14, .call .deep (.v (.clo F.hallmarkref03_Formed [] [])) [.t 13],none⟩,⟨some 15, .un .not (.t 14),none⟩]
def r5 : List AO := [⟨some 2, .asg (.v (.bool false)),none⟩]
def r3 : List AO := [⟨some 8, .mv (.t 3),none⟩,⟨some 9, .bin .add (.t 8) (.v (.int .i64 1)),none⟩,⟨some 3, .asg (.t 9),none⟩]
def l1 : AC := .seq (.seq (.reg r2 [0, 3, 7]) (.cond (.t 7) (.skip) (.exit 0))) (.seq (.block 1 (.seq (.reg r4 [0, 3, 15]) (.cond (.t 15) (.seq (.reg r5 [2]) (.ret)) (.skip)))) (.reg r3 [0, 3]))
def r6 : List AO := [⟨some 2, .asg (.v (.bool true)),none⟩]
def body : AC := .seq (.reg r0 [0]) (.seq (.seq (.reg r1 [0, 3]) (.block 0 (.loop [0, 3] l1))) (.seq (.reg r6 [2]) (.ret)))
def fn : AFun := ⟨[.val], 16, [.tmp 2], [], body⟩
end hallmarkref03_All
namespace value_Twin
def r0 : List AO := [⟨some 1, .box (.t 0),none⟩,⟨some 2, .alloc [.av (.int .i64 0), .av (.str []), .av (.str []), .own 5 [], .own 1 []],none⟩]
def r1 : List AO := [⟨some 4, .fadr 4 (.t 1),none⟩,⟨some 5, .load 1 false (.t 4),none⟩,⟨some 6, .call .none (.v (.clo F.slices_Clone_Lstring_string [] [])) [.t 5],none⟩,⟨some 7, .fadr 4 (.t 1),none⟩,⟨none, .store 1 (.t 7) (.t 6),none⟩]
def r2 : List AO := [⟨some 8, .fadr 3 (.t 1),none⟩,⟨some 9, .load 1 false (.t 8),none⟩,⟨some 10, .call .none (.v (.clo F.slices_Clone_LValue_Value [] [])) [.t 9],none⟩,⟨some 11, .fadr 3 (.t 1),none⟩,⟨none, .store 1 (.t 11) (.t 10),none⟩]
def r3 : List AO := [⟨some 12, .fadr 3 (.t 1),none⟩,⟨some 13, .load 1 false (.t 12),none⟩,⟨some 14, .len false (.t 13),none⟩,⟨some 15, .mv (.v (.int .i64 0)),none⟩]
def r4 : List AO := [⟨some 16, .bin .lss (.t 15) (.t 14),none⟩]
def r5 : List AO := [⟨some 17, .mv (.t 15),none⟩,⟨some 3, .asg (.t 17),none⟩]
def r6 : List Ph := [.bag false [] [25] [(0, ⟨some 18, .fadr 3 (.t 1),none⟩),(1, ⟨some 19, .load 1 false (.t 18),none⟩),(2, ⟨some 20, .mv (.t 3),none⟩),(3, ⟨some 21, .fadr 3 (.t 1),none⟩),(4, ⟨some 22, .load 1 false (.t 21),none⟩),(5, ⟨some 23, .mv (.t 3),none⟩),(6, ⟨some 24, .iadr 5 (.t 22) (.t 23),none⟩),(7, ⟨some 25, .load 5 true (.t 24),none⟩),(8, ⟨some 26, .call .none (.v (.clo F.value_Twin [] [])) [.t 25],none⟩),(9, ⟨some 27, .iadr 5 (.t 19) (.t 20),none⟩)],.one 10 ⟨none, .store 5 (.t 27) (.t 26),none⟩]
def r7 : List AO := [⟨some 28, .bin .add (.t 15) (.v (.int .i64 1)),none⟩,⟨some 15, .mv (.t 28),none⟩]
def l1 : AC := .seq (.reg r4 [1, 2, 14, 15, 16]) (.seq (.cond (.t 16) (.skip) (.exit 0)) (.seq (.block 1 (.seq (.reg r5 [1, 2, 3, 14, 15]) (.dreg r6 [1, 2, 14, 15]))) (.reg r7 [1, 2, 14, 15])))
def r8 : List AO := [⟨some 29, .take 5 true (.t 1),none⟩,⟨none, .store 5 (.t 2) (.t 29),none⟩]
def body : AC := .seq (.reg r0 [1, 2]) (.seq (.reg r1 [1, 2]) (.seq (.reg r2 [1, 2]) (.seq (.seq (.reg r3 [1, 2, 14, 15]) (.block 0 (.loop [1, 2, 14, 15] l1))) (.seq (.reg r8 [2]) (.ret)))))
def fn : AFun := ⟨[.val], 30, [.cell 2 5 true], [], body⟩
end value_Twin
namespace value_side_alike
def r0 : List AO := [⟨some 2, .box (.t 0),none⟩,⟨some 3, .box (.t 1),none⟩,⟨some 4, .asg (.v (.int .i64 0)),none⟩]
def r1 : List AO := [⟨some 4, .asg (.v (.int .i64 0)),none⟩]
def body : AC := .seq (.reg r0 []) (.seq (.reg r1 [4]) (.ret))
def fn : AFun := ⟨[.val, .val], 5, [.tmp 4], [], body⟩
end value_side_alike
namespace value_side_number
def r0 : List AO := [⟨some 2, .box (.t 0),none⟩,⟨some 3, .box (.t 1),none⟩,⟨some 4, .asg (.v (.int .i64 0)),none⟩]
def r1 : List AO := [⟨some 8, .fadr 1 (.t 2),none⟩,⟨some 9, .load 1 false (.t 8),none⟩,⟨some 10, .fadr 1 (.t 3),none⟩,⟨some 11, .load 1 false (.t 10),none⟩,⟨some 12, .call .deep (.v (.clo F.tens_Cmp [] [])) [.t 9, .t 11],none⟩,⟨some 7, .mv (.t 12),none⟩,⟨some 13, .ext (.t 7) 0,none⟩,⟨some 14, .ext (.t 7) 1,none⟩,⟨some 5, .asg (.t 13),none⟩,⟨some 6, .asg (.t 14),none⟩]
def r2 : List AO := [⟨some 15, .mv (.t 5),none⟩,⟨some 4, .asg (.t 15),none⟩]
def body : AC := .seq (.reg r0 [2, 3]) (.seq (.reg r1 [5]) (.seq (.reg r2 [4]) (.ret)))
def fn : AFun := ⟨[.val, .val], 16, [.tmp 4], [], body⟩
end value_side_number
namespace value_side_text
def r0 : List AO := [⟨some 2, .box (.t 0),none⟩,⟨some 3, .box (.t 1),none⟩,⟨some 4, .asg (.v (.int .i64 0)),none⟩]
def r1 : List AO := [⟨some 5, .fadr 2 (.t 2),none⟩,⟨some 6, .load 1 false (.t 5),none⟩,⟨some 7, .fadr 2 (.t 3),none⟩,⟨some 8, .load 1 false (.t 7),none⟩,⟨some 9, .call .deep (.v (.clo F.strings_Compare [] [])) [.t 6, .t 8],none⟩,⟨some 4, .asg (.t 9),none⟩]
def body : AC := .seq (.reg r0 [2, 3]) (.seq (.reg r1 [4]) (.ret))
def fn : AFun := ⟨[.val, .val], 10, [.tmp 4], [], body⟩
end value_side_text
namespace value_side_array
def r0 : List AO := [⟨some 2, .box (.t 0),none⟩,⟨some 3, .box (.t 1),none⟩,⟨some 4, .asg (.v (.int .i64 0)),none⟩]
def r1 : List AO := [⟨some 5, .fadr 3 (.t 2),none⟩,⟨some 6, .take 1 false (.t 5),none⟩,⟨some 7, .fadr 3 (.t 3),none⟩,⟨some 8, .take 1 false (.t 7),none⟩,⟨some 9, .call .deep (.v (.clo F.slices_CompareFunc_LValue_LValue_Value_Value [] [])) [.t 6, .t 8, .v (.clo F.value_Cmp [] [])],none⟩,⟨some 4, .asg (.t 9),none⟩]
def body : AC := .seq (.reg r0 [2, 3]) (.seq (.reg r1 [4]) (.ret))
def fn : AFun := ⟨[.val, .val], 10, [.tmp 4], [], body⟩
end value_side_array
namespace value_side_object
def r0 : List AO := [⟨some 2, .box (.t 0),none⟩,⟨some 3, .box (.t 1),none⟩,⟨some 4, .asg (.v (.int .i64 0)),none⟩]
def r1 : List Ph := [.bag false [] [6, 8, 10, 11, 13] [(0, ⟨some 5, .fadr 4 (.t 2),none⟩),(1, ⟨some 6, .load 1 false (.t 5),none⟩),(2, ⟨some 7, .fadr 4 (.t 3),none⟩),(3, ⟨some 8, .load 1 false (.t 7),none⟩),(4, ⟨some 9, .call .deep (.v (.clo F.slices_Compare_Lstring_string [] [])) [.t 6, .t 8],none⟩),(5, ⟨some 10, .load 5 true (.t 2),none⟩),(6, ⟨some 11, .load 5 true (.t 3),none⟩),(7, ⟨some 12, .call .deep (.v (.clo F.value_side_array [] [])) [.t 10, .t 11],none⟩),(8, ⟨some 13, .buildS 2 1 [.av (.int .i64 0)] [(0, 1, .t 9), (1, 1, .t 12)],none⟩),(9, ⟨some 14, .call .deep (.v (.clo F.cmp_Or_int [] [])) [.t 13],none⟩),(10, ⟨some 4, .asg (.t 14),none⟩)]]
def body : AC := .seq (.reg r0 [2, 3]) (.seq (.dreg r1 [4]) (.ret))
def fn : AFun := ⟨[.val, .val], 15, [.tmp 4], [], body⟩
end value_side_object
namespace cmp_Compare_int
def r0 : List AO := [⟨some 4, .asg (.v (.int .i64 0)),none⟩]
def r1 : List AO := [⟨some 7, .mv (.t 0),none⟩,⟨some 8, .call .deep (.v (.clo F.cmp_isNaN_int [] [])) [.t 7],none⟩,⟨some 5, .asg (.t 8),none⟩]
def r2 : List AO := [⟨some 9, .mv (.t 1),none⟩,⟨some 10, .call .deep (.v (.clo F.cmp_isNaN_int [] [])) [.t 9],none⟩,⟨some 6, .asg (.t 10),none⟩]
def r3 : List AO := [⟨some 11, .mv (.t 5),none⟩]
def r4 : List AO := [⟨some 12, .mv (.t 6),none⟩]
def r5 : List AO := [⟨some 4, .asg (.v (.int .i64 0)),none⟩]
def r6 : List AO := [⟨some 4, .asg (.v (.int .i64 (-1))),none⟩]
def r7 : List AO := [⟨some 13, .mv (.t 6),none⟩]
def r8 : List AO := [⟨some 4, .asg (.v (.int .i64 1)),none⟩]
def r9 : List AO := [⟨some 14, .mv (.t 0),none⟩,⟨some 15, .mv (.t 1),none⟩,⟨some 16, .bin .lss (.t 14) (.t 15),none⟩]
def r10 : List AO := [⟨some 4, .asg (.v (.int .i64 (-1))),none⟩]
def r11 : List AO := [⟨some 17, .mv (.t 0),none⟩,⟨some 18, .mv (.t 1),none⟩,⟨some 19, .bin .gtr (.t 17) (.t 18),none⟩]
def r12 : List AO := [⟨some 4, .asg (.v (.int .i64 1)),none⟩]
def r13 : List AO := [⟨some 4, .asg (.v (.int .i64 0)),none⟩]
def body : AC := .seq (.reg r0 [0, 1]) (.seq (.reg r1 [0, 1, 5]) (.seq (.reg r2 [0, 1, 5, 6]) (.seq (.seq (.reg r3 [0, 1, 6, 11]) (.cond (.t 11) (.seq (.seq (.reg r4 [12]) (.cond (.t 12) (.seq (.reg r5 [4]) (.ret)) (.skip))) (.seq (.reg r6 [4]) (.ret))) (.skip))) (.seq (.seq (.reg r7 [0, 1, 13]) (.cond (.t 13) (.seq (.reg r8 [4]) (.ret)) (.skip))) (.seq (.seq (.reg r9 [0, 1, 16]) (.cond (.t 16) (.seq (.reg r10 [4]) (.ret)) (.skip))) (.seq (.seq (.reg r11 [19]) (.cond (.t 19) (.seq (.reg r12 [4]) (.ret)) (.skip))) (.seq (.reg r13 [4]) (.ret))))))))
def fn : AFun := ⟨[.val, .val], 20, [.tmp 4], [], body⟩
end cmp_Compare_int
namespace hallmarkref03_width
def r0 : List AO := [⟨some 4, .asg (.v (.int .i64 0)),none⟩]
def r1 : List AO := [⟨some 8, .mv (.t 0),none⟩,⟨some 9, .mv (.t 1),none⟩,⟨some 10, .idxS (.t 8) (.t 9),none⟩,⟨some 5, .asg (.t 10),none⟩]
def r2 : List AO := [⟨some 11, .mv (.t 5),none⟩,⟨some 12, .bin .lss (.t 11) (.v (.int .u8 128)),none⟩]
def r3 : List AO := [⟨some 4, .asg (.v (.int .i64 1)),none⟩]
def r4 : List AO := [⟨some 13, .mv (.t 5),none⟩,⟨some 14, .bin .geq (.t 13) (.v (.int .u8 194)),none⟩,⟨some 15, .mv (.t 14),none⟩,⟨some 16, .mv (.t 5), some (15, true)⟩,⟨some 17, .bin .leq (.t 16) (.v (.int .u8 223)), some (15, true)⟩,⟨some 18, .pick (.t 15) (.t 17) (.v (.bool false)),none⟩,⟨some 19, .mv (.t 18),none⟩,⟨some 20, .mv (.t 0), some (19, true)⟩,⟨some 21, .mv (.t 1), some (19, true)⟩,⟨some 22, .bin .add (.t 21) (.v (.int .i64 1)), some (19, true)⟩,⟨some 23, .call .deep (.v (.clo F.hallmarkref03_trail [] [])) [.t 20, .t 22, .v (.int .i64 1), .v (.int .u8 128), .v (.int .u8 191)], some (19, true)⟩,⟨some 24, .pick (.t 19) (.t 23) (.v (.bool false)),none⟩]
def r5 : List AO := [⟨some 4, .asg (.v (.int .i64 2)),none⟩]
def r6 : List AO := [⟨some 6, .asg (.v (.int .u8 128)),none⟩]
def r7 : List AO := [⟨some 7, .asg (.v (.int .u8 191)),none⟩]
def r8 : List AO := [⟨some 25, .mv (.t 5),none⟩,⟨some 26, .bin .eql (.t 25) (.v (.int .u8 224)),none⟩]
def r9 : List AO := [⟨some 6, .asg (.v (.int .u8 160)),none⟩]
def r10 : List AO := [⟨some 27, .mv (.t 5),none⟩,⟨some 28, .bin .eql (.t 27) (.v (.int .u8 237)),none⟩]
def r11 : List AO := [⟨some 7, .asg (.v (.int .u8 159)),none⟩]
def r12 : List AO := [⟨some 29, .mv (.t 5),none⟩,⟨some 30, .bin .eql (.t 29) (.v (.int .u8 240)),none⟩]
def r13 : List AO := [⟨some 6, .asg (.v (.int .u8 144)),none⟩]
def r14 : List AO := [⟨some 31, .mv (.t 5),none⟩,⟨some 32, .bin .eql (.t 31) (.v (.int .u8 244)),none⟩]
def r15 : List AO := [⟨some 7, .asg (.v (.int .u8 143)),none⟩]
def r16 : List AO := [⟨some 33, .mv (.t 5),none⟩,⟨some 34, .bin .geq (.t 33) (.v (.int .u8 224)),none⟩,⟨some 35, .mv (.t 34),none⟩,⟨some 36, .mv (.t 5), some (35, true)⟩,⟨some 37, .bin .leq (.t 36) (.v (.int .u8 239)), some (35, true)⟩,⟨some 38, .pick (.t 35) (.t 37) (.v (.bool false)),none⟩,⟨some 39, .mv (.t 38),none⟩,⟨some 40, .mv (.t 0), some (39, true)⟩,⟨some 41, .mv (.t 1), some (39, true)⟩,⟨some 42, .bin .add (.t 41) (.v (.int .i64 1)), some (39, true)⟩,⟨some 43, .mv (.t 6), some (39, true)⟩,⟨some 44, .mv (.t 7), some (39, true)⟩,⟨some 45, .call .deep (.v (.clo F.hallmarkref03_trail [] [])) [.t 40, .t 42, .v (.int .i64 2), .t 43, .t 44], some (39, true)⟩,⟨some 46, .pick (.t 39) (.t 45) (.v (.bool false)),none⟩]
def r17 : List AO := [⟨some 4, .asg (.v (.int .i64 3)),none⟩]
def r18 : List AO := [⟨some 47, .mv (.t 5),none⟩,⟨some 48, .bin .geq (.t 47) (.v (.int .u8 240)),none⟩,⟨some 49, .mv (.t 48),none⟩,⟨some 50, .mv (.t 5), some (49, true)⟩,⟨some 51, .bin .leq (.t 50) (.v (.int .u8 244)), some (49, true)⟩,⟨some 52, .pick (.t 49) (.t 51) (.v (.bool false)),none⟩,⟨some 53, .mv (.t 52),none⟩,⟨some 54, .mv (.t 0), some (53, true)⟩,⟨some 55, .mv (.t 1), some (53, true)⟩,⟨some 56, .bin .add (.t 55) (.v (.int .i64 1)), some (53, true)⟩,⟨some 57, .mv (.t 6), some (53, true)⟩,⟨some 58, .mv (.t 7), some (53, true)⟩,⟨some 59, .call .deep (.v (.clo F.hallmarkref03_trail [] [])) [.t 54, .t 56, .v (.int .i64 3), .t 57, .t 58], some (53, true)⟩,⟨some 60, .pick (.t 53) (.t 59) (.v (.bool false)),none⟩]
def r19 : List AO := [⟨some 4, .asg (.v (.int .i64 4)),none⟩]
def r20 : List AO := [⟨some 4, .asg (.v (.int .i64 0)),none⟩]
def body : AC := .seq (.reg r0 [0, 1]) (.seq (.reg r1 [0, 1, 5]) (.seq (.seq (.reg r2 [0, 1, 5, 12]) (.cond (.t 12) (.seq (.reg r3 [4]) (.ret)) (.skip))) (.seq (.seq (.reg r4 [0, 1, 5, 24]) (.cond (.t 24) (.seq (.reg r5 [4]) (.ret)) (.skip))) (.seq (.reg r6 [0, 1, 5, 6]) (.seq (.reg r7 [0, 1, 5, 6, 7]) (.seq (.seq (.reg r8 [0, 1, 5, 6, 7, 26]) (.cond (.t 26) (.reg r9 [0, 1, 5, 6, 7]) (.skip))) (.seq (.seq (.reg r10 [0, 1, 5, 6, 7, 28]) (.cond (.t 28) (.reg r11 [0, 1, 5, 6, 7]) (.skip))) (.seq (.seq (.reg r12 [0, 1, 5, 6, 7, 30]) (.cond (.t 30) (.reg r13 [0, 1, 5, 6, 7]) (.skip))) (.seq (.seq (.reg r14 [0, 1, 5, 6, 7, 32]) (.cond (.t 32) (.reg r15 [0, 1, 5, 6, 7]) (.skip))) (.seq (.seq (.reg r16 [0, 1, 5, 6, 7, 46]) (.cond (.t 46) (.seq (.reg r17 [4]) (.ret)) (.skip))) (.seq (.seq (.reg r18 [60]) (.cond (.t 60) (.seq (.reg r19 [4]) (.ret)) (.skip))) (.seq (.reg r20 [4]) (.ret)))))))))))))
def fn : AFun := ⟨[.val, .val], 61, [.tmp 4], [], body⟩
end hallmarkref03_width
namespace tens_Cmp
def r0 : List AO := [⟨some 4, .asg (.v (.int .i64 0)),none⟩,⟨some 5, .asg (.v (.int .i64 0)),none⟩]
def r1 : List AO := [⟨some 10, .mv (.t 0),none⟩,⟨some 11, .call .deep (.v (.clo F.tens_Formed [] [])) [.t 10],none⟩,⟨some 12, .un .not (.t 11),none⟩,⟨some 13, .mv (.t 12),none⟩,⟨some 14, .mv (.t 1), some (13, false)⟩,⟨some 15, .call .deep (.v (.clo F.tens_Formed [] [])) [.t 14], some (13, false)⟩,⟨some 16, .un .not (.t 15), some (13, false)⟩,⟨some 17, .pick (.t 13) (.v (.bool true)) (.t 16),none⟩]
def r2 : List AO := [⟨some 4, .asg (.v (.int .i64 0)),none⟩,⟨some 5, .asg (.v (.int .i64 1)),none⟩]
def r3 : List AO := [⟨some 19, .mv (.t 0),none⟩,⟨some 20, .call .deep (.v (.clo F.tens_split [] [])) [.t 19],none⟩,⟨some 18, .mv (.t 20),none⟩,⟨some 21, .ext (.t 18) 0,none⟩,⟨some 22, .ext (.t 18) 1,none⟩,⟨some 6, .asg (.t 21),none⟩,⟨some 7, .asg (.t 22),none⟩]
def r4 : List AO := [⟨some 24, .mv (.t 1),none⟩,⟨some 25, .call .deep (.v (.clo F.tens_split [] [])) [.t 24],none⟩,⟨some 23, .mv (.t 25),none⟩,⟨some 26, .ext (.t 23) 0,none⟩,⟨some 27, .ext (.t 23) 1,none⟩,⟨some 8, .asg (.t 26),none⟩,⟨some 9, .asg (.t 27),none⟩]
def r5 : List AO := [⟨some 29, .mv (.t 6),none⟩,⟨some 30, .mv (.t 29),none⟩,⟨some 31, .mv (.t 8), some (30, true)⟩,⟨some 32, .pick (.t 30) (.t 31) (.v (.bool false)),none⟩,⟨some 28, .asg (.t 32),none⟩]
def r6 : List AO := [⟨some 33, .mv (.t 9),none⟩,⟨some 34, .mv (.t 7),none⟩,⟨some 35, .call .deep (.v (.clo F.tens_size [] [])) [.t 33, .t 34],none⟩,⟨some 4, .asg (.t 35),none⟩,⟨some 5, .asg (.v (.int .i64 0)),none⟩]
def r7 : List AO := [⟨some 37, .mv (.t 6),none⟩,⟨some 36, .asg (.t 37),none⟩]
def r8 : List AO := [⟨some 4, .asg (.v (.int .i64 (-1))),none⟩,⟨some 5, .asg (.v (.int .i64 0)),none⟩]
def r9 : List AO := [⟨some 39, .mv (.t 8),none⟩,⟨some 38, .asg (.t 39),none⟩]
def r10 : List AO := [⟨some 4, .asg (.v (.int .i64 1)),none⟩,⟨some 5, .asg (.v (.int .i64 0)),none⟩]
def r11 : List AO := [⟨some 40, .mv (.t 7),none⟩,⟨some 41, .mv (.t 9),none⟩,⟨some 42, .call .deep (.v (.clo F.tens_size [] [])) [.t 40, .t 41],none⟩,⟨some 4, .asg (.t 42),none⟩,⟨some 5, .asg (.v (.int .i64 0)),none⟩]
def body : AC := .seq (.reg r0 [0, 1]) (.seq (.seq (.reg r1 [0, 1, 17]) (.cond (.t 17) (.seq (.reg r2 [4, 5]) (.ret)) (.skip))) (.seq (.reg r3 [1, 6, 7]) (.seq (.reg r4 [6, 7, 8, 9]) (.seq (.block 0 (.seq (.reg r5 [6, 7, 8, 9, 28]) (.cond (.t 28) (.seq (.reg r6 [4, 5]) (.ret)) (.seq (.reg r7 [7, 8, 9, 36]) (.cond (.t 36) (.seq (.reg r8 [4, 5]) (.ret)) (.seq (.reg r9 [7, 9, 38]) (.cond (.t 38) (.seq (.reg r10 [4, 5]) (.ret)) (.skip)))))))) (.seq (.reg r11 [4, 5]) (.ret))))))
def fn : AFun := ⟨[.val, .val], 43, [.tmp 4, .tmp 5], [], body⟩
end tens_Cmp
namespace strings_Compare
def r0 : List AO := [⟨some 4, .asg (.v (.int .i64 0)),none⟩]
def r1 : List AO := [⟨some 5, .mv (.t 0),none⟩,⟨some 6, .mv (.t 1),none⟩,⟨some 7, .call .deep (.v (.clo F.internal_bytealg_CompareString [] [])) [.t 5, .t 6],none⟩,⟨some 4, .asg (.t 7),none⟩]
def body : AC := .seq (.reg r0 [0, 1]) (.seq (.reg r1 [4]) (.ret))
def fn : AFun := ⟨[.val, .val], 8, [.tmp 4], [], body⟩
end strings_Compare
namespace slices_CompareFunc_LValue_LValue_Value_Value
def r0 : List AO := [⟨some 6, .asg (.v (.int .i64 0)),none⟩]
def r1 : List AO := [⟨some 11, .mv (.t 0),none⟩,⟨some 12, .len false (.t 11),none⟩,⟨some 13, .mv (.v (.int .i64 0)),none⟩]
def r2 : List AO := [⟨some 14, .bin .lss (.t 13) (.t 12),none⟩]
def r3 : List AO := [⟨some 15, .mv (.t 13),none⟩,⟨some 16, .iadr 5 (.t 11) (.t 13),none⟩,⟨some 17, .load 5 true (.t 16),none⟩,⟨some 8, .alloc [.av (.int .i64 0), .av (.str []), .av (.str []), .own 5 [], .own 1 []],none⟩,⟨some 7, .asg (.t 15),none⟩,⟨none, .store 5 (.t 8) (.t 17),none⟩]
def r4 : List AO := [⟨some 18, .mv (.t 7),none⟩,⟨some 19, .mv (.t 1),none⟩,⟨some 20, .len false (.t 19),none⟩,⟨some 21, .bin .geq (.t 18) (.t 20),none⟩]
def r5 : List AO := [⟨some 6, .asg (.v (.int .i64 1)),none⟩]
def r6 : List AO := [⟨some 22, .mv (.t 1),none⟩,⟨some 23, .mv (.t 7),none⟩,⟨some 24, .iadr 5 (.t 22) (.t 23),none⟩,⟨some 25, .load 5 true (.t 24),none⟩,⟨some 9, .alloc [.av (.int .i64 0), .av (.str []), .av (.str []), .own 5 [], .own 1 []],none⟩,⟨none, .store 5 (.t 9) (.t 25),none⟩]
def r7 : List AO := [⟨some 26, .mv (.t 2),none⟩,⟨some 27, .take 5 true (.t 8),none⟩,⟨some 28, .take 5 true (.t 9),none⟩,⟨some 29, .call .deep (.t 26) [.t 27, .t 28],none⟩,⟨some 10, .asg (.t 29),none⟩]
def r8 : List AO := [⟨some 30, .mv (.t 10),none⟩,⟨some 31, .bin .neq (.t 30) (.v (.int .i64 0)),none⟩]
def r9 : List AO := [⟨some 32, .mv (.t 10),none⟩,⟨some 6, .asg (.t 32),none⟩]
def r10 : List AO := [⟨some 33, .bin .add (.t 13) (.v (.int .i64 1)),none⟩,⟨some 13, .mv (.t 33),none⟩]
def l1 : AC := .seq (.reg r2 [0, 1, 2, 11, 12, 13, 14]) (.seq (.cond (.t 14) (.skip) (.exit 0)) (.seq (.block 1 (.seq (.reg r3 [0, 1, 2, 7, 8, 11, 12, 13]) (.seq (.seq (.reg r4 [0, 1, 2, 7, 8, 11, 12, 13, 21]) (.cond (.t 21) (.seq (.reg r5 [6]) (.ret)) (.skip))) (.seq (.reg r6 [0, 1, 2, 8, 9, 11, 12, 13]) (.seq (.reg r7 [0, 1, 2, 10, 11, 12, 13]) (.seq (.reg r8 [0, 1, 2, 10, 11, 12, 13, 31]) (.cond (.t 31) (.seq (.reg r9 [6]) (.ret)) (.skip)))))))) (.reg r10 [0, 1, 2, 11, 12, 13])))
def r11 : List AO := [⟨some 34, .mv (.t 0),none⟩,⟨some 35, .len false (.t 34),none⟩,⟨some 36, .mv (.t 1),none⟩,⟨some 37, .len false (.t 36),none⟩,⟨some 38, .bin .lss (.t 35) (.t 37),none⟩]
def r12 : List AO := [⟨some 6, .asg (.v (.int .i64 (-1))),none⟩]
def r13 : List AO := [⟨some 6, .asg (.v (.int .i64 0)),none⟩]
def body : AC := .seq (.reg r0 [0, 1, 2]) (.seq (.seq (.reg r1 [0, 1, 2, 11, 12, 13]) (.block 0 (.loop [0, 1, 2, 11, 12, 13] l1))) (.seq (.seq (.reg r11 [38]) (.cond (.t 38) (.seq (.reg r12 [6]) (.ret)) (.skip))) (.seq (.reg r13 [6]) (.ret))))
def fn : AFun := ⟨[.val, .val, .val], 39, [.tmp 6], [], body⟩
end slices_CompareFunc_LValue_LValue_Value_Value
namespace slices_Compare_Lstring_string
def r0 : List AO := [⟨some 4, .asg (.v (.int .i64 0)),none⟩]
def r1 : List AO := [⟨some 9, .mv (.t 0),none⟩,⟨some 10, .len false (.t 9),none⟩,⟨some 11, .mv (.v (.int .i64 0)),none⟩]
def r2 : List AO := [⟨some 12, .bin .lss (.t 11) (.t 10),none⟩]
def r3 : List AO := [⟨some 13, .mv (.t 11),none⟩,⟨some 14, .iadr 1 (.t 9) (.t 11),none⟩,⟨some 15, .load 1 false (.t 14),none⟩,⟨some 5, .asg (.t 13),none⟩,⟨some 6, .asg (.t 15),none⟩]
def r4 : List AO := [⟨some 16, .mv (.t 5),none⟩,⟨some 17, .mv (.t 1),none⟩,⟨some 18, .len false (.t 17),none⟩,⟨some 19, .bin .geq (.t 16) (.t 18),none⟩]
def r5 : List AO := [⟨some 4, .asg (.v (.int .i64 1)),none⟩]
def r6 : List AO := [⟨some 20, .mv (.t 1),none⟩,⟨some 21, .mv (.t 5),none⟩,⟨some 22, .iadr 1 (.t 20) (.t 21),none⟩,⟨some 23, .load 1 false (.t 22),none⟩,⟨some 7, .asg (.t 23),none⟩]
def r7 : List AO := [⟨some 24, .mv (.t 6),none⟩,⟨some 25, .mv (.t 7),none⟩,⟨some 26, .call .deep (.v (.clo F.cmp_Compare_string [] [])) [.t 24, .t 25],none⟩,⟨some 8, .asg (.t 26),none⟩]
def r8 : List AO := [⟨some 27, .mv (.t 8),none⟩,⟨some 28, .bin .neq (.t 27) (.v (.int .i64 0)),none⟩]
def r9 : List AO := [⟨some 29, .mv (.t 8),none⟩,⟨some 4, .asg (.t 29),none⟩]
def r10 : List AO := [⟨some 30, .bin .add (.t 11) (.v (.int .i64 1)),none⟩,⟨some 11, .mv (.t 30),none⟩]
def l1 : AC := .seq (.reg r2 [0, 1, 9, 10, 11, 12]) (.seq (.cond (.t 12) (.skip) (.exit 0)) (.seq (.block 1 (.seq (.reg r3 [0, 1, 5, 6, 9, 10, 11]) (.seq (.seq (.reg r4 [0, 1, 5, 6, 9, 10, 11, 19]) (.cond (.t 19) (.seq (.reg r5 [4]) (.ret)) (.skip))) (.seq (.reg r6 [0, 1, 6, 7, 9, 10, 11]) (.seq (.reg r7 [0, 1, 8, 9, 10, 11]) (.seq (.reg r8 [0, 1, 8, 9, 10, 11, 28]) (.cond (.t 28) (.seq (.reg r9 [4]) (.ret)) (.skip)))))))) (.reg r10 [0, 1, 9, 10, 11])))
def r11 : List AO := [⟨some 31, .mv (.t 0),none⟩,⟨some 32, .len false (.t 31),none⟩,⟨some 33, .mv (.t 1),none⟩,⟨some 34, .len false (.t 33),none⟩,⟨some 35, .bin .lss (.t 32) (.t 34),none⟩]
def r12 : List AO := [⟨some 4, .asg (.v (.int .i64 (-1))),none⟩]
def r13 : List AO := [⟨some 4, .asg (.v (.int .i64 0)),none⟩]
def body : AC := .seq (.reg r0 [0, 1]) (.seq (.seq (.reg r1 [0, 1, 9, 10, 11]) (.block 0 (.loop [0, 1, 9, 10, 11] l1))) (.seq (.seq (.reg r11 [35]) (.cond (.t 35) (.seq (.reg r12 [4]) (.ret)) (.skip))) (.seq (.reg r13 [4]) (.ret))))
def fn : AFun := ⟨[.val, .val], 36, [.tmp 4], [], body⟩
end slices_Compare_Lstring_string
namespace cmp_Or_int
def r0 : List AO := [⟨some 2, .asg (.v (.int .i64 0)),none⟩]
def r1 : List AO := [⟨some 3, .asg (.v (.int .i64 0)),none⟩]
def r2 : List AO := [⟨some 6, .mv (.t 0),none⟩,⟨some 7, .len false (.t 6),none⟩,⟨some 8, .mv (.v (.int .i64 0)),none⟩]
def r3 : List AO := [⟨some 9, .bin .lss (.t 8) (.t 7),none⟩]
def r4 : List AO := [⟨some 10, .iadr 1 (.t 6) (.t 8),none⟩,⟨some 11, .load 1 false (.t 10),none⟩,⟨some 5, .asg (.t 11),none⟩]
def r5 : List AO := [⟨some 12, .mv (.t 5),none⟩,⟨some 13, .mv (.t 3),none⟩,⟨some 14, .bin .neq (.t 12) (.t 13),none⟩]
def r6 : List AO := [⟨some 15, .mv (.t 5),none⟩,⟨some 2, .asg (.t 15),none⟩]
def r7 : List AO := [⟨some 16, .bin .add (.t 8) (.v (.int .i64 1)),none⟩,⟨some 8, .mv (.t 16),none⟩]
def l1 : AC := .seq (.reg r3 [3, 6, 7, 8, 9]) (.seq (.cond (.t 9) (.skip) (.exit 0)) (.seq (.block 1 (.seq (.reg r4 [3, 5, 6, 7, 8]) (.seq (.reg r5 [3, 5, 6, 7, 8, 14]) (.cond (.t 14) (.seq (.reg r6 [2]) (.ret)) (.skip))))) (.reg r7 [3, 6, 7, 8])))
def r8 : List AO := [⟨some 17, .mv (.t 3),none⟩,⟨some 2, .asg (.t 17),none⟩]
def body : AC := .seq (.reg r0 [0]) (.seq (.reg r1 [0, 3]) (.seq (.seq (.reg r2 [3, 6, 7, 8]) (.block 0 (.loop [3, 6, 7, 8] l1))) (.seq (.reg r8 [2]) (.ret))))
def fn : AFun := ⟨[.val], 18, [.tmp 2], [], body⟩
end cmp_Or_int
namespace cmp_isNaN_int
def r0 : List AO := [⟨some 2, .asg (.v (.bool false)),none⟩]
def r1 : List AO := [⟨some 3, .mv (.t 0),none⟩,⟨some 4, .mv (.t 0),none⟩,⟨some 5, .bin .neq (.t 3) (.t 4),none⟩,⟨some 2, .asg (.t 5),none⟩]
def body : AC := .seq (.reg r0 [0]) (.seq (.reg r1 [2]) (.ret))
def fn : AFun := ⟨[.val], 6, [.tmp 2], [], body⟩
end cmp_isNaN_int
namespace hallmarkref03_trail
def r0 : List AO := [⟨some 10, .asg (.v (.bool false)),none⟩]
def r1 : List AO := [⟨some 12, .mv (.t 1),none⟩,⟨some 13, .mv (.t 2),none⟩,⟨some 14, .bin .add (.t 12) (.t 13),none⟩,⟨some 15, .mv (.t 0),none⟩,⟨some 16, .len true (.t 15),none⟩,⟨some 17, .bin .gtr (.t 14) (.t 16),none⟩]
def r2 : List AO := [⟨some 10, .asg (.v (.bool false)),none⟩]
def r3 : List AO := [⟨some 11, .asg (.v (.int .i64 0)),none⟩]
def r4 : List AO := [⟨some 18, .mv (.t 11),none⟩,⟨some 19, .mv (.t 2),none⟩,⟨some 20, .bin .lss (.t 18) (.t 19),none⟩]
def r6 : List AO := [⟨some 23, .mv (.t 0),none⟩,⟨some 24, .mv (.t 1),none⟩,⟨some 25, .mv (.t 11),none⟩,⟨some 26, .bin .add (.t 24) (.t 25),none⟩,⟨some 27, .idxS (.t 23) (.t 26),none⟩,⟨some 28, .bin .lss (.t 27) (.v (.int .u8 128)),none⟩,⟨some 29, .mv (.t 28),none⟩,⟨some 30, .mv (.t 0), some (29, false)⟩,⟨some 31, .mv (.t 1), some (29, false)⟩,⟨some 32, .mv (.t 11), some (29, false)⟩,⟨some 33, .bin .add (.t 31) (.t 32), some (29, false)⟩,⟨some 34, .idxS (.t 30) (.t 33), some (29, false)⟩,⟨some 35, .bin .gtr (.t 34) (.v (.int .u8 191)), some (29, false)⟩,⟨some 36, .pick (.t 29) (.v (.bool true)) (.t 35),none⟩]
def r7 : List AO := [⟨some 10, .asg (.v (.bool false)),none⟩]
def r5 : List AO := [⟨some 21, .mv (.t 11),none⟩,⟨some 22, .bin .add (.t 21) (.v (.int .i64 1)),none⟩,⟨some 11, .asg (.t 22),none⟩]
def l1 : AC := .seq (.seq (.reg r4 [0, 1, 2, 3, 4, 11, 20]) (.cond (.t 20) (.skip) (.exit 0))) (.seq (.block 1 (.seq (.reg r6 [0, 1, 2, 3, 4, 11, 36]) (.cond (.t 36) (.seq (.reg r7 [10]) (.ret)) (.skip)))) (.reg r5 [0, 1, 2, 3, 4, 11]))
def r8 : List AO := [⟨some 37, .mv (.t 0),none⟩,⟨some 38, .mv (.t 1),none⟩,⟨some 39, .idxS (.t 37) (.t 38),none⟩,⟨some 40, .mv (.t 3),none⟩,⟨some 41, .bin .geq (.t 39) (.t 40),none⟩,⟨some 42, .mv (.t 41),none⟩,⟨some 43, .mv (.t 0), some (42, true)⟩,⟨some 44, .mv (.t 1), some (42, true)⟩,⟨some 45, .idxS (.t 43) (.t 44), some (42, true)⟩,⟨some 46, .mv (.t 4), some (42, true)⟩,⟨some 47, .bin .leq (.t 45) (.t 46), some (42, true)⟩,⟨some 48, .pick (.t 42) (.t 47) (.v (.bool false)),none⟩,⟨some 10, .asg (.t 48),none⟩]
def body : AC := .seq (.reg r0 [0, 1, 2, 3, 4]) (.seq (.seq (.reg r1 [0, 1, 2, 3, 4, 17]) (.cond (.t 17) (.seq (.reg r2 [10]) (.ret)) (.skip))) (.seq (.seq (.reg r3 [0, 1, 2, 3, 4, 11]) (.block 0 (.loop [0, 1, 2, 3, 4, 11] l1))) (.seq (.reg r8 [10]) (.ret))))
def fn : AFun := ⟨[.val, .val, .val, .val, .val], 49, [.tmp 10], [], body⟩
end hallmarkref03_trail
namespace tens_Formed
def r0 : List AO := [⟨some 2, .asg (.v (.bool false)),none⟩]
def r1 : List AO := [⟨some 4, .mv (.t 0),none⟩,⟨some 5, .bin .eql (.t 4) (.v (.str [48])),none⟩]
def r2 : List AO := [⟨some 2, .asg (.v (.bool true)),none⟩]
def r3 : List AO := [⟨some 6, .mv (.t 0),none⟩,⟨some 7, .bin .neq (.t 6) (.v (.str [])),none⟩,⟨some 8, .mv (.t 7),none⟩,⟨some 9, .mv (.t 0), some (8, true)⟩,⟨some 10, .idxS (.t 9) (.v (.int .i64 0)), some (8, true)⟩,⟨some 11, .bin .eql (.t 10) (.v (.int .u8 45)), some (8, true)⟩,⟨some 12, .pick (.t 8) (.t 11) (.v (.bool false)),none⟩]
def r4 : List AO := [⟨some 13, .mv (.t 0),none⟩,⟨some 14, .slc true 1 (.t 13) (some (.v (.int .i64 1))) none,none⟩,⟨some 0, .asg (.t 14),none⟩]
def r5 : List AO := [⟨some 15, .mv (.t 0),none⟩,⟨some 16, .bin .eql (.t 15) (.v (.str [])),none⟩,⟨some 17, .mv (.t 16),none⟩,⟨some 18, .mv (.t 0), some (17, false)⟩,⟨some 19, .idxS (.t 18) (.v (.int .i64 0)), some (17, false)⟩,⟨some 20, .bin .eql (.t 19) (.v (.int .u8 48)), some (17, false)⟩,⟨some 21, .pick (.t 17) (.v (.bool true)) (.t 20),none⟩]
def r6 : List AO := [⟨some 2, .asg (.v (.bool false)),none⟩]
def r7 : List AO := [⟨some 22, .mv (.t 0),none⟩,⟨some 23, .len true (.t 22),none⟩,⟨some 24, .mv (.v (.int .i64 0)),none⟩]
def r8 : List AO := [⟨some 25, .bin .lss (.t 24) (.t 23),none⟩]
def r9 : List AO := [⟨some 26, .mv (.t 24),none⟩,⟨some 3, .asg (.t 26),none⟩]
def r10 : List AO := [⟨some 27, .mv (.t 0),none⟩,⟨some 28, .mv (.t 3),none⟩,⟨some 29, .idxS (.t 27) (.t 28),none⟩,⟨some 30, .bin .lss (.t 29) (.v (.int .u8 48)),none⟩,⟨some 31, .mv (.t 30),none⟩,⟨some 32, .mv (.t 0), some (31, false)⟩,⟨some 33, .mv (.t 3), some (31, false)⟩,⟨some 34, .idxS (.t 32) (.t 33), some (31, false)⟩,⟨some 35, .bin .gtr (.t 34) (.v (.int .u8 57)), some (31, false)⟩,⟨some 36, .pick (.t 31) (.v (.bool true)) (.t 35),none⟩]
def r11 : List AO := [⟨some 2, .asg (.v (.bool false)),none⟩]
def r12 : List AO := [⟨some 37, .bin .add (.t 24) (.v (.int .i64 1)),none⟩,⟨some 24, .mv (.t 37),none⟩]
def l1 : AC := .seq (.reg r8 [0, 23, 24, 25]) (.seq (.cond (.t 25) (.skip) (.exit 0)) (.seq (.block 1 (.seq (.reg r9 [0, 3, 23, 24]) (.seq (.reg r10 [0, 23, 24, 36]) (.cond (.t 36) (.seq (.reg r11 [2]) (.ret)) (.skip))))) (.reg r12 [0, 23, 24])))
def r13 : List AO := [⟨some 2, .asg (.v (.bool true)),none⟩]
def body : AC := .seq (.reg r0 [0]) (.seq (.seq (.reg r1 [0, 5]) (.cond (.t 5) (.seq (.reg r2 [2]) (.ret)) (.skip))) (.seq (.seq (.reg r3 [0, 12]) (.cond (.t 12) (.reg r4 [0]) (.skip))) (.seq (.seq (.reg r5 [0, 21]) (.cond (.t 21) (.seq (.reg r6 [2]) (.ret)) (.skip))) (.seq (.seq (.reg r7 [0, 23, 24]) (.block 0 (.loop [0, 23, 24] l1))) (.seq (.reg r13 [2]) (.ret))))))
def fn : AFun := ⟨[.val], 38, [.tmp 2], [], body⟩
end tens_Formed
namespace tens_split
def r0 : List AO := [⟨some 2, .asg (.v (.bool false)),none⟩,⟨some 3, .asg (.v (.str [])),none⟩]
def r1 : List AO := [⟨some 4, .mv (.t 0),none⟩,⟨some 5, .idxS (.t 4) (.v (.int .i64 0)),none⟩,⟨some 6, .bin .eql (.t 5) (.v (.int .u8 45)),none⟩]
def r2 : List Ph := [.bag false [] [0] [(0, ⟨some 7, .mv (.t 0),none⟩),(1, ⟨some 8, .slc true 1 (.t 7) (some (.v (.int .i64 1))) none,none⟩),(2, ⟨some 2, .asg (.v (.bool true)),none⟩),(3, ⟨some 3, .asg (.t 8),none⟩)]]
def r3 : List AO := [⟨some 9, .mv (.t 0),none⟩,⟨some 2, .asg (.v (.bool false)),none⟩,⟨some 3, .asg (.t 9),none⟩]
def body : AC := .seq (.reg r0 [0]) (.seq (.seq (.reg r1 [0, 6]) (.cond (.t 6) (.seq (.dreg r2 [2, 3]) (.ret)) (.skip))) (.seq (.reg r3 [2, 3]) (.ret)))
def fn : AFun := ⟨[.val], 10, [.tmp 2, .tmp 3], [], body⟩
end tens_split
namespace tens_size
def r0 : List AO := [⟨some 4, .asg (.v (.int .i64 0)),none⟩]
def r1 : List AO := [⟨some 6, .mv (.t 0),none⟩,⟨some 7, .len true (.t 6),none⟩,⟨some 8, .mv (.t 1),none⟩,⟨some 9, .len true (.t 8),none⟩,⟨some 10, .bin .neq (.t 7) (.t 9),none⟩,⟨some 5, .asg (.t 10),none⟩]
def r2 : List AO := [⟨some 11, .mv (.t 0),none⟩,⟨some 12, .len true (.t 11),none⟩,⟨some 13, .mv (.t 1),none⟩,⟨some 14, .len true (.t 13),none⟩,⟨some 15, .bin .sub (.t 12) (.t 14),none⟩,⟨some 16, .mm true [.t 15, .v (.int .i64 (-1))],none⟩,⟨some 17, .mm false [.t 16, .v (.int .i64 1)],none⟩,⟨some 4, .asg (.t 17),none⟩]
def r3 : List AO := [⟨some 19, .mv (.t 0),none⟩,⟨some 20, .mv (.t 1),none⟩,⟨some 21, .bin .lss (.t 19) (.t 20),none⟩,⟨some 18, .asg (.t 21),none⟩]
def r4 : List AO := [⟨some 4, .asg (.v (.int .i64 (-1))),none⟩]
def r5 : List AO := [⟨some 23, .mv (.t 0),none⟩,⟨some 24, .mv (.t 1),none⟩,⟨some 25, .bin .gtr (.t 23) (.t 24),none⟩,⟨some 22, .asg (.t 25),none⟩]
def r6 : List AO := [⟨some 4, .asg (.v (.int .i64 1)),none⟩]
def r7 : List AO := [⟨some 4, .asg (.v (.int .i64 0)),none⟩]
def body : AC := .seq (.reg r0 [0, 1]) (.seq (.block 0 (.seq (.reg r1 [0, 1, 5]) (.cond (.t 5) (.seq (.reg r2 [4]) (.ret)) (.seq (.reg r3 [0, 1, 18]) (.cond (.t 18) (.seq (.reg r4 [4]) (.ret)) (.seq (.reg r5 [22]) (.cond (.t 22) (.seq (.reg r6 [4]) (.ret)) (.skip)))))))) (.seq (.reg r7 [4]) (.ret)))
def fn : AFun := ⟨[.val, .val], 26, [.tmp 4], [], body⟩
end tens_size
namespace cmp_Compare_string
def r0 : List AO := [⟨some 4, .asg (.v (.int .i64 0)),none⟩]
def r1 : List AO := [⟨some 7, .mv (.t 0),none⟩,⟨some 8, .call .deep (.v (.clo F.cmp_isNaN_string [] [])) [.t 7],none⟩,⟨some 5, .asg (.t 8),none⟩]
def r2 : List AO := [⟨some 9, .mv (.t 1),none⟩,⟨some 10, .call .deep (.v (.clo F.cmp_isNaN_string [] [])) [.t 9],none⟩,⟨some 6, .asg (.t 10),none⟩]
def r3 : List AO := [⟨some 11, .mv (.t 5),none⟩]
def r4 : List AO := [⟨some 12, .mv (.t 6),none⟩]
def r5 : List AO := [⟨some 4, .asg (.v (.int .i64 0)),none⟩]
def r6 : List AO := [⟨some 4, .asg (.v (.int .i64 (-1))),none⟩]
def r7 : List AO := [⟨some 13, .mv (.t 6),none⟩]
def r8 : List AO := [⟨some 4, .asg (.v (.int .i64 1)),none⟩]
def r9 : List AO := [⟨some 14, .mv (.t 0),none⟩,⟨some 15, .mv (.t 1),none⟩,⟨some 16, .bin .lss (.t 14) (.t 15),none⟩]
def r10 : List AO := [⟨some 4, .asg (.v (.int .i64 (-1))),none⟩]
def r11 : List AO := [⟨some 17, .mv (.t 0),none⟩,⟨some 18, .mv (.t 1),none⟩,⟨some 19, .bin .gtr (.t 17) (.t 18),none⟩]
def r12 : List AO := [⟨some 4, .asg (.v (.int .i64 1)),none⟩]
def r13 : List AO := [⟨some 4, .asg (.v (.int .i64 0)),none⟩]
def body : AC := .seq (.reg r0 [0, 1]) (.seq (.reg r1 [0, 1, 5]) (.seq (.reg r2 [0, 1, 5, 6]) (.seq (.seq (.reg r3 [0, 1, 6, 11]) (.cond (.t 11) (.seq (.seq (.reg r4 [12]) (.cond (.t 12) (.seq (.reg r5 [4]) (.ret)) (.skip))) (.seq (.reg r6 [4]) (.ret))) (.skip))) (.seq (.seq (.reg r7 [0, 1, 13]) (.cond (.t 13) (.seq (.reg r8 [4]) (.ret)) (.skip))) (.seq (.seq (.reg r9 [0, 1, 16]) (.cond (.t 16) (.seq (.reg r10 [4]) (.ret)) (.skip))) (.seq (.seq (.reg r11 [19]) (.cond (.t 19) (.seq (.reg r12 [4]) (.ret)) (.skip))) (.seq (.reg r13 [4]) (.ret))))))))
def fn : AFun := ⟨[.val, .val], 20, [.tmp 4], [], body⟩
end cmp_Compare_string
namespace cmp_isNaN_string
def r0 : List AO := [⟨some 2, .asg (.v (.bool false)),none⟩]
def r1 : List AO := [⟨some 3, .mv (.t 0),none⟩,⟨some 4, .mv (.t 0),none⟩,⟨some 5, .bin .neq (.t 3) (.t 4),none⟩,⟨some 2, .asg (.t 5),none⟩]
def body : AC := .seq (.reg r0 [0]) (.seq (.reg r1 [2]) (.ret))
def fn : AFun := ⟨[.val], 6, [.tmp 2], [], body⟩
end cmp_isNaN_string
namespace value_Formed
def r0 : List AO := [⟨some 1, .box (.t 0),none⟩,⟨some 2, .asg (.v (.bool false)),none⟩]
def r1 : List AO := [⟨some 3, .fadr 0 (.t 1),none⟩,⟨some 4, .load 1 false (.t 3),none⟩]
def r2 : List AO := [⟨some 6, .bin .eql (.t 4) (.v (.int .i64 0)),none⟩,⟨some 5, .asg (.t 6),none⟩]
def r3 : List AO := [⟨some 7, .bin .eql (.t 4) (.v (.int .i64 1)),none⟩,⟨some 5, .asg (.t 7),none⟩]
def r4 : List AO := [⟨some 8, .bin .eql (.t 4) (.v (.int .i64 2)),none⟩,⟨some 5, .asg (.t 8),none⟩]
def r5 : List AO := [⟨some 9, .take 5 true (.t 1),none⟩,⟨some 10, .call .deep (.v (.clo F.value_empty [] [])) [.t 9, .v (.bool false), .v (.bool false), .v (.bool false), .v (.bool false)],none⟩,⟨some 2, .asg (.t 10),none⟩]
def r6 : List AO := [⟨some 12, .bin .eql (.t 4) (.v (.int .i64 3)),none⟩,⟨some 11, .asg (.t 12),none⟩]
def r7 : List AO := [⟨some 13, .load 5 true (.t 1),none⟩,⟨some 14, .call .deep (.v (.clo F.value_empty [] [])) [.t 13, .v (.bool true), .v (.bool false), .v (.bool false), .v (.bool false)],none⟩,⟨some 15, .mv (.t 14),none⟩,⟨some 16, .fadr 1 (.t 1), some (15, true)⟩,⟨some 17, .load 1 false (.t 16), some (15, true)⟩,⟨some 18, .call .deep (.v (.clo F.tens_Formed [] [])) [.t 17], some (15, true)⟩,⟨some 19, .pick (.t 15) (.t 18) (.v (.bool false)),none⟩,⟨some 2, .asg (.t 19),none⟩]
def r8 : List AO := [⟨some 21, .bin .eql (.t 4) (.v (.int .i64 4)),none⟩,⟨some 20, .asg (.t 21),none⟩]
def r9 : List AO := [⟨some 22, .load 5 true (.t 1),none⟩,⟨some 23, .call .deep (.v (.clo F.value_empty [] [])) [.t 22, .v (.bool false), .v (.bool true), .v (.bool false), .v (.bool false)],none⟩,⟨some 24, .mv (.t 23),none⟩,⟨some 25, .fadr 2 (.t 1), some (24, true)⟩,⟨some 26, .load 1 false (.t 25), some (24, true)⟩,⟨some 27, .call .deep (.v (.clo F.utf_Valid [] [])) [.t 26], some (24, true)⟩,⟨some 28, .pick (.t 24) (.t 27) (.v (.bool false)),none⟩,⟨some 2, .asg (.t 28),none⟩]
def r10 : List AO := [⟨some 30, .bin .eql (.t 4) (.v (.int .i64 5)),none⟩,⟨some 29, .asg (.t 30),none⟩]
def r11 : List AO := [⟨some 31, .load 5 true (.t 1),none⟩,⟨some 32, .call .deep (.v (.clo F.value_empty [] [])) [.t 31, .v (.bool false), .v (.bool false), .v (.bool true), .v (.bool false)],none⟩,⟨some 33, .mv (.t 32),none⟩,⟨some 34, .fadr 3 (.t 1), some (33, true)⟩,⟨some 35, .take 1 false (.t 34), some (33, true)⟩,⟨some 36, .call .deep (.v (.clo F.value_allFormed [] [])) [.t 35], some (33, true)⟩,⟨some 37, .pick (.t 33) (.t 36) (.v (.bool false)),none⟩,⟨some 2, .asg (.t 37),none⟩]
def r12 : List AO := [⟨some 39, .bin .eql (.t 4) (.v (.int .i64 6)),none⟩,⟨some 38, .asg (.t 39),none⟩]
def r13 : List AO := [⟨some 40, .load 5 true (.t 1),none⟩,⟨some 41, .call .deep (.v (.clo F.value_empty [] [])) [.t 40, .v (.bool false), .v (.bool false), .v (.bool true), .v (.bool true)],none⟩,⟨some 42, .mv (.t 41),none⟩,⟨some 43, .fadr 3 (.t 1), some (42, true)⟩,⟨some 44, .load 1 false (.t 43), some (42, true)⟩,⟨some 45, .len false (.t 44), some (42, true)⟩,⟨some 46, .fadr 4 (.t 1), some (42, true)⟩,⟨some 47, .load 1 false (.t 46), some (42, true)⟩,⟨some 48, .len false (.t 47), some (42, true)⟩,⟨some 49, .bin .eql (.t 45) (.t 48), some (42, true)⟩,⟨some 50, .pick (.t 42) (.t 49) (.v (.bool false)),none⟩,⟨some 51, .mv (.t 50),none⟩,⟨some 52, .fadr 4 (.t 1), some (51, true)⟩,⟨some 53, .load 1 false (.t 52), some (51, true)⟩,⟨some 54, .call .deep (.v (.clo F.value_rise [] [])) [.t 53], some (51, true)⟩,⟨some 55, .pick (.t 51) (.t 54) (.v (.bool false)),none⟩,⟨some 56, .mv (.t 55),none⟩,⟨some 57, .fadr 3 (.t 1), some (56, true)⟩,⟨some 58, .take 1 false (.t 57), some (56, true)⟩,⟨some 59, .call .deep (.v (.clo F.value_allFormed [] [])) [.t 58], some (56, true)⟩,⟨some 60, .pick (.t 56) (.t 59) (.v (.bool false)),none⟩,⟨some 2, .asg (.t 60),none⟩]
def r14 : List AO := [⟨some 2, .asg (.v (.bool false)),none⟩]
def body : AC := .seq (.reg r0 [1]) (.seq (.seq (.reg r1 [1, 4]) (.block 0 (.seq (.seq (.reg r2 [1, 4, 5]) (.cond (.t 5) (.skip) (.seq (.reg r3 [1, 4, 5]) (.cond (.t 5) (.skip) (.reg r4 [1, 4, 5]))))) (.cond (.t 5) (.seq (.reg r5 [2]) (.ret)) (.seq (.reg r6 [1, 4, 11]) (.cond (.t 11) (.seq (.reg r7 [2]) (.ret)) (.seq (.reg r8 [1, 4, 20]) (.cond (.t 20) (.seq (.reg r9 [2]) (.ret)) (.seq (.reg r10 [1, 4, 29]) (.cond (.t 29) (.seq (.reg r11 [2]) (.ret)) (.seq (.reg r12 [1, 38]) (.cond (.t 38) (.seq (.reg r13 [2]) (.ret)) (.skip))))))))))))) (.seq (.reg r14 [2]) (.ret)))
def fn : AFun := ⟨[.val], 61, [.tmp 2], [], body⟩
end value_Formed
namespace value_Same
def r0 : List AO := [⟨some 2, .box (.t 0),none⟩,⟨some 3, .box (.t 1),none⟩,⟨some 4, .asg (.v (.bool false)),none⟩]
def r1 : List AO := [⟨some 5, .take 5 true (.t 2),none⟩,⟨some 6, .take 5 true (.t 3),none⟩,⟨some 7, .call .deep (.v (.clo F.value_Cmp [] [])) [.t 5, .t 6],none⟩,⟨some 8, .bin .eql (.t 7) (.v (.int .i64 0)),none⟩,⟨some 4, .asg (.t 8),none⟩]
def body : AC := .seq (.reg r0 [2, 3]) (.seq (.reg r1 [4]) (.ret))
def fn : AFun := ⟨[.val, .val], 9, [.tmp 4], [], body⟩
end value_Same
namespace value_empty
def r0 : List AO := [⟨some 5, .box (.t 0),none⟩,⟨some 10, .asg (.v (.bool false)),none⟩]
def r1 : List AO := [⟨some 11, .mv (.t 1),none⟩,⟨some 12, .mv (.t 11),none⟩,⟨some 13, .fadr 1 (.t 5), some (12, false)⟩,⟨some 14, .load 1 false (.t 13), some (12, false)⟩,⟨some 15, .bin .eql (.t 14) (.v (.str [])), some (12, false)⟩,⟨some 16, .pick (.t 12) (.v (.bool true)) (.t 15),none⟩,⟨some 17, .mv (.t 16),none⟩,⟨some 18, .mv (.t 2), some (17, true)⟩,⟨some 19, .mv (.t 18), some (17, true)⟩,⟨some 20, .fadr 2 (.t 5), some (19, false)⟩,⟨some 21, .load 1 false (.t 20), some (19, false)⟩,⟨some 22, .bin .eql (.t 21) (.v (.str [])), some (19, false)⟩,⟨some 23, .pick (.t 19) (.v (.bool true)) (.t 22), some (17, true)⟩,⟨some 24, .pick (.t 17) (.t 23) (.v (.bool false)),none⟩,⟨some 25, .mv (.t 24),none⟩,⟨some 26, .mv (.t 3), some (25, true)⟩,⟨some 27, .mv (.t 26), some (25, true)⟩,⟨some 28, .fadr 3 (.t 5), some (27, false)⟩,⟨some 29, .load 1 false (.t 28), some (27, false)⟩,⟨some 30, .len false (.t 29), some (27, false)⟩,⟨some 31, .bin .eql (.t 30) (.v (.int .i64 0)), some (27, false)⟩,⟨some 32, .pick (.t 27) (.v (.bool true)) (.t 31), some (25, true)⟩,⟨some 33, .pick (.t 25) (.t 32) (.v (.bool false)),none⟩,⟨some 34, .mv (.t 33),none⟩,⟨some 35, .mv (.t 4), some (34, true)⟩,⟨some 36, .mv (.t 35), some (34, true)⟩,⟨some 37, .fadr 4 (.t 5), some (36, false)⟩,⟨some 38, .take 1 false (.t 37), some (36, false)⟩,⟨some 39, .len false (.t 38), some (36, false)⟩,⟨some 40, .bin .eql (.t 39) (.v (.int .i64 0)), some (36, false)⟩,⟨some 41, .pick (.t 36) (.v (.bool true)) (.t 40), some (34, true)⟩,⟨some 42, .pick (.t 34) (.t 41) (.v (.bool false)),none⟩,⟨some 10, .asg (.t 42),none⟩]
def body : AC := .seq (.reg r0 [1, 2, 3, 4, 5]) (.seq (.reg r1 [10]) (.ret))
def fn : AFun := ⟨[.val, .val, .val, .val, .val], 43, [.tmp 10], [], body⟩
end value_empty
namespace utf_Valid
def r0 : List AO := [⟨some 2, .asg (.v (.bool false)),none⟩]
def r1 : List AO := [⟨some 3, .mv (.t 0),none⟩,⟨some 4, .call .deep (.v (.clo F.unicode_utf8_ValidString [] [])) [.t 3],none⟩,⟨some 2, .asg (.t 4),none⟩]
def body : AC := .seq (.reg r0 [0]) (.seq (.reg r1 [2]) (.ret))
def fn : AFun := ⟨[.val], 5, [.tmp 2], [], body⟩
end utf_Valid
namespace value_allFormed
def r0 : List AO := [⟨some 2, .asg (.v (.bool false)),none⟩]
def r1 : List AO := [⟨some 3, .mv (.t 0),none⟩,⟨some 4, .call .deep (.v (.clo F.slices_ContainsFunc_LValue_Value [] [])) [.t 3, .v (.clo F.value_allFormed_S1 [] [])],none⟩,⟨some 5, .un .not (.t 4),none⟩,⟨some 2, .asg (.t 5),none⟩]
def body : AC := .seq (.reg r0 [0]) (.seq (.reg r1 [2]) (.ret))
def fn : AFun := ⟨[.val], 6, [.tmp 2], [], body⟩
end value_allFormed
namespace value_rise
def r0 : List AO := [⟨some 2, .asg (.v (.bool false)),none⟩]
def r1 : List AO := [⟨some 5, .mv (.t 0),none⟩,⟨some 6, .len false (.t 5),none⟩,⟨some 7, .mv (.v (.int .i64 0)),none⟩]
def r2 : List AO := [⟨some 8, .bin .lss (.t 7) (.t 6),none⟩]
def r3 : List AO := [⟨some 9, .mv (.t 7),none⟩,⟨some 10, .iadr 1 (.t 5) (.t 7),none⟩,⟨some 11, .load 1 false (.t 10),none⟩,⟨some 3, .asg (.t 9),none⟩,⟨some 4, .asg (.t 11),none⟩]
def r4 : List AO := [⟨some 12, .mv (.t 4),none⟩,⟨some 13, .call .deep (.v (.clo F.utf_Valid [] [])) [.t 12],none⟩,⟨some 14, .un .not (.t 13),none⟩,⟨some 15, .mv (.t 14),none⟩,⟨some 16, .mv (.t 3), some (15, false)⟩,⟨some 17, .bin .gtr (.t 16) (.v (.int .i64 0)), some (15, false)⟩,⟨some 18, .mv (.t 17), some (15, false)⟩,⟨some 19, .mv (.t 0), some (18, true)⟩,⟨some 20, .mv (.t 3), some (18, true)⟩,⟨some 21, .bin .sub (.t 20) (.v (.int .i64 1)), some (18, true)⟩,⟨some 22, .iadr 1 (.t 19) (.t 21), some (18, true)⟩,⟨some 23, .load 1 false (.t 22), some (18, true)⟩,⟨some 24, .mv (.t 4), some (18, true)⟩,⟨some 25, .bin .geq (.t 23) (.t 24), some (18, true)⟩,⟨some 26, .pick (.t 18) (.t 25) (.v (.bool false)), some (15, false)⟩,⟨some 27, .pick (.t 15) (.v (.bool true)) (.t 26),none⟩]
def r5 : List AO := [⟨some 2, .asg (.v (.bool false)),none⟩]
def r6 : List AO := [⟨some 28, .bin .add (.t 7) (.v (.int .i64 1)),none⟩,⟨some 7, .mv (.t 28),none⟩]
def l1 : AC := .seq (.reg r2 [0, 5, 6, 7, 8]) (.seq (.cond (.t 8) (.skip) (.exit 0)) (.seq (.block 1 (.seq (.reg r3 [0, 3, 4, 5, 6, 7]) (.seq (.reg r4 [0, 5, 6, 7, 27]) (.cond (.t 27) (.seq (.reg r5 [2]) (.ret)) (.skip))))) (.reg r6 [0, 5, 6, 7])))
def r7 : List AO := [⟨some 2, .asg (.v (.bool true)),none⟩]
def body : AC := .seq (.reg r0 [0]) (.seq (.seq (.reg r1 [0, 5, 6, 7]) (.block 0 (.loop [0, 5, 6, 7] l1))) (.seq (.reg r7 [2]) (.ret)))
def fn : AFun := ⟨[.val], 29, [.tmp 2], [], body⟩
end value_rise
namespace unicode_utf8_ValidString
def r0 : List AO := [⟨some 2, .asg (.v (.bool false)),none⟩]
def r1 : List AO := [⟨some 7, .mv (.t 0),none⟩,⟨some 8, .len true (.t 7),none⟩,⟨some 9, .bin .gtr (.t 8) (.v (.int .i64 0)),none⟩]
def r2 : List AO := [⟨some 10, .mv (.t 0),none⟩,⟨some 11, .idxS (.t 10) (.v (.int .i64 0)),none⟩,⟨some 3, .asg (.t 11),none⟩]
def r3 : List AO := [⟨some 12, .mv (.t 3),none⟩,⟨some 13, .bin .lss (.t 12) (.v (.int .u8 128)),none⟩]
def r4 : List AO := [⟨some 14, .mv (.t 0),none⟩,⟨some 15, .slc true 1 (.t 14) (some (.v (.int .i64 1))) none,none⟩,⟨some 0, .asg (.t 15),none⟩]
def r5 : List AO := [⟨some 16, .mv (.t 0),none⟩,⟨some 17, .len true (.t 16),none⟩,⟨some 18, .bin .gtr (.t 17) (.v (.int .i64 8)),none⟩,⟨some 19, .mv (.t 18),none⟩,⟨some 20, .mv (.t 0), some (19, true)⟩,⟨some 21, .call .deep (.v (.clo F.unicode_utf8_word_string [] [])) [.t 20], some (19, true)⟩,⟨some 22, .bin .and (.t 21) (.v (.int .u64 9259542123273814144)), some (19, true)⟩,⟨some 23, .bin .eql (.t 22) (.v (.int .u64 0)), some (19, true)⟩,⟨some 24, .pick (.t 19) (.t 23) (.v (.bool false)),none⟩]
def r6 : List AO := [⟨some 25, .mv (.t 0),none⟩,⟨some 26, .slc true 1 (.t 25) (some (.v (.int .i64 8))) none,none⟩,⟨some 0, .asg (.t 26),none⟩]
def r7 : List Ph := [.bag false [] [] [(0, ⟨some 27, .mv (.t 0),none⟩),(1, ⟨some 28, .len true (.t 27),none⟩),(2, ⟨some 29, .bin .gtr (.t 28) (.v (.int .i64 16)),none⟩),(3, ⟨some 30, .mv (.t 29),none⟩),(4, ⟨some 31, .mv (.t 0), some (30, true)⟩),(5, ⟨some 32, .call .deep (.v (.clo F.unicode_utf8_word_string [] [])) [.t 31], some (30, true)⟩),(6, ⟨some 33, .mv (.t 0), some (30, true)⟩),(7, ⟨some 34, .slc true 1 (.t 33) (some (.v (.int .i64 8))) none, some (30, true)⟩),(8, ⟨some 35, .call .deep (.v (.clo F.unicode_utf8_word_string [] [])) [.t 34], some (30, true)⟩),(9, ⟨some 36, .bin .or (.t 32) (.t 35), some (30, true)⟩),(10, ⟨some 37, .bin .and (.t 36) (.v (.int .u64 9259542123273814144)), some (30, true)⟩),(11, ⟨some 38, .bin .eql (.t 37) (.v (.int .u64 0)), some (30, true)⟩),(12, ⟨some 39, .pick (.t 30) (.t 38) (.v (.bool false)),none⟩)]]
def r8 : List AO := [⟨some 40, .mv (.t 0),none⟩,⟨some 41, .slc true 1 (.t 40) (some (.v (.int .i64 16))) none,none⟩,⟨some 0, .asg (.t 41),none⟩]
def r9 : List Ph := [.bag false [] [] [(0, ⟨some 42, .mv (.t 0),none⟩),(1, ⟨some 43, .len true (.t 42),none⟩),(2, ⟨some 44, .bin .gtr (.t 43) (.v (.int .i64 32)),none⟩),(3, ⟨some 45, .mv (.t 44),none⟩),(4, ⟨some 46, .mv (.t 0), some (45, true)⟩),(5, ⟨some 47, .call .deep (.v (.clo F.unicode_utf8_word_string [] [])) [.t 46], some (45, true)⟩),(6, ⟨some 48, .mv (.t 0), some (45, true)⟩),(7, ⟨some 49, .slc true 1 (.t 48) (some (.v (.int .i64 8))) none, some (45, true)⟩),(8, ⟨some 50, .call .deep (.v (.clo F.unicode_utf8_word_string [] [])) [.t 49], some (45, true)⟩),(9, ⟨some 51, .bin .or (.t 47) (.t 50), some (45, true)⟩),(10, ⟨some 52, .mv (.t 0), some (45, true)⟩),(11, ⟨some 53, .slc true 1 (.t 52) (some (.v (.int .i64 16))) none, some (45, true)⟩),(12, ⟨some 54, .call .deep (.v (.clo F.unicode_utf8_word_string [] [])) [.t 53], some (45, true)⟩),(13, ⟨some 55, .mv (.t 0), some (45, true)⟩),(14, ⟨some 56, .slc true 1 (.t 55) (some (.v (.int .i64 24))) none, some (45, true)⟩),(15, ⟨some 57, .call .deep (.v (.clo F.unicode_utf8_word_string [] [])) [.t 56], some (45, true)⟩),(16, ⟨some 58, .bin .or (.t 54) (.t 57), some (45, true)⟩),(17, ⟨some 59, .bin .or (.t 51) (.t 58), some (45, true)⟩),(18, ⟨some 60, .bin .and (.t 59) (.v (.int .u64 9259542123273814144)), some (45, true)⟩),(19, ⟨some 61, .bin .eql (.t 60) (.v (.int .u64 0)), some (45, true)⟩),(20, ⟨some 62, .pick (.t 45) (.t 61) (.v (.bool false)),none⟩)]]
def r10 : List AO := [⟨some 63, .mv (.t 0),none⟩,⟨some 64, .slc true 1 (.t 63) (some (.v (.int .i64 32))) none,none⟩,⟨some 0, .asg (.t 64),none⟩]
def l2 : AC := .seq (.seq (.dreg r9 [0, 62]) (.cond (.t 62) (.skip) (.exit 2))) (.block 3 (.reg r10 [0]))
def r11 : List AO := [⟨some 65, .mv (.t 3),none⟩,⟨some 66, .iadrA 256 1 (.v (.vptr (zavs firZ))) (.t 65),none⟩,⟨some 67, .load 1 false (.t 66),none⟩,⟨some 4, .asg (.t 67),none⟩]
def r12 : List AO := [⟨some 68, .mv (.t 4),none⟩,⟨some 69, .bin .and (.t 68) (.v (.int .u8 7)),none⟩,⟨some 70, .conv (.int .i64) (.t 69),none⟩,⟨some 5, .asg (.t 70),none⟩]
def r13 : List AO := [⟨some 71, .mv (.t 4),none⟩,⟨some 72, .bin .shr (.t 71) (.v (.int .u64 4)),none⟩,⟨some 73, .iadrA 16 2 (.v (.vptr (zavs accZ))) (.t 72),none⟩,⟨some 74, .load 2 true (.t 73),none⟩,⟨some 6, .alloc [.av (.int .u8 0), .av (.int .u8 0)],none⟩,⟨none, .store 2 (.t 6) (.t 74),none⟩]
def r14 : List AO := [⟨some 75, .mv (.t 5),none⟩]
def r16 : List AO := [⟨some 77, .bin .eql (.t 75) (.v (.int .i64 2)),none⟩,⟨some 76, .asg (.t 77),none⟩]
def r17 : List Ph := [.bag false [] [] [(0, ⟨some 78, .mv (.t 0),none⟩),(1, ⟨some 79, .len true (.t 78),none⟩),(2, ⟨some 80, .bin .lss (.t 79) (.v (.int .i64 2)),none⟩),(3, ⟨some 81, .mv (.t 80),none⟩),(4, ⟨some 82, .mv (.t 0), some (81, false)⟩),(5, ⟨some 83, .idxS (.t 82) (.v (.int .i64 1)), some (81, false)⟩),(6, ⟨some 84, .fadr 0 (.t 6), some (81, false)⟩),(7, ⟨some 85, .load 1 false (.t 84), some (81, false)⟩),(8, ⟨some 86, .bin .lss (.t 83) (.t 85), some (81, false)⟩),(9, ⟨some 87, .pick (.t 81) (.v (.bool true)) (.t 86),none⟩),(10, ⟨some 88, .mv (.t 87),none⟩),(11, ⟨some 89, .fadr 1 (.t 6), some (88, false)⟩),(12, ⟨some 90, .load 1 false (.t 89), some (88, false)⟩),(13, ⟨some 91, .mv (.t 0), some (88, false)⟩),(14, ⟨some 92, .idxS (.t 91) (.v (.int .i64 1)), some (88, false)⟩),(15, ⟨some 93, .bin .lss (.t 90) (.t 92), some (88, false)⟩),(16, ⟨some 94, .pick (.t 88) (.v (.bool true)) (.t 93),none⟩)]]
def r18 : List AO := [⟨some 2, .asg (.v (.bool false)),none⟩]
def r19 : List AO := [⟨some 95, .mv (.t 0),none⟩,⟨some 96, .slc true 1 (.t 95) (some (.v (.int .i64 2))) none,none⟩,⟨some 0, .asg (.t 96),none⟩]
def r20 : List AO := [⟨some 98, .bin .eql (.t 75) (.v (.int .i64 3)),none⟩,⟨some 97, .asg (.t 98),none⟩]
def r21 : List Ph := [.bag false [] [] [(0, ⟨some 99, .mv (.t 0),none⟩),(1, ⟨some 100, .len true (.t 99),none⟩),(2, ⟨some 101, .bin .lss (.t 100) (.v (.int .i64 3)),none⟩),(3, ⟨some 102, .mv (.t 101),none⟩),(4, ⟨some 103, .mv (.t 0), some (102, false)⟩),(5, ⟨some 104, .idxS (.t 103) (.v (.int .i64 1)), some (102, false)⟩),(6, ⟨some 105, .fadr 0 (.t 6), some (102, false)⟩),(7, ⟨some 106, .load 1 false (.t 105), some (102, false)⟩),(8, ⟨some 107, .bin .lss (.t 104) (.t 106), some (102, false)⟩),(9, ⟨some 108, .pick (.t 102) (.v (.bool true)) (.t 107),none⟩),(10, ⟨some 109, .mv (.t 108),none⟩),(11, ⟨some 110, .fadr 1 (.t 6), some (109, false)⟩),(12, ⟨some 111, .load 1 false (.t 110), some (109, false)⟩),(13, ⟨some 112, .mv (.t 0), some (109, false)⟩),(14, ⟨some 113, .idxS (.t 112) (.v (.int .i64 1)), some (109, false)⟩),(15, ⟨some 114, .bin .lss (.t 111) (.t 113), some (109, false)⟩),(16, ⟨some 115, .pick (.t 109) (.v (.bool true)) (.t 114),none⟩),(17, ⟨some 116, .mv (.t 115),none⟩),(18, ⟨some 117, .mv (.t 0), some (116, false)⟩),(19, ⟨some 118, .idxS (.t 117) (.v (.int .i64 2)), some (116, false)⟩),(20, ⟨some 119, .bin .lss (.t 118) (.v (.int .u8 128)), some (116, false)⟩),(21, ⟨some 120, .pick (.t 116) (.v (.bool true)) (.t 119),none⟩),(22, ⟨some 121, .mv (.t 120),none⟩),(23, ⟨some 122, .mv (.t 0), some (121, false)⟩),(24, ⟨some 123, .idxS (.t 122) (.v (.int .i64 2)), some (121, false)⟩),(25, ⟨some 124, .bin .lss (.v (.int .u8 191)) (.t 123), some (121, false)⟩),(26, ⟨some 125, .pick (.t 121) (.v (.bool true)) (.t 124),none⟩)]]
def r22 : List AO := [⟨some 2, .asg (.v (.bool false)),none⟩]
def r23 : List AO := [⟨some 126, .mv (.t 0),none⟩,⟨some 127, .slc true 1 (.t 126) (some (.v (.int .i64 3))) none,none⟩,⟨some 0, .asg (.t 127),none⟩]
def r24 : List AO := [⟨some 129, .bin .eql (.t 75) (.v (.int .i64 4)),none⟩,⟨some 128, .asg (.t 129),none⟩]
def r25 : List Ph := [.bag false [] [] [(0, ⟨some 130, .mv (.t 0),none⟩),(1, ⟨some 131, .len true (.t 130),none⟩),(2, ⟨some 132, .bin .lss (.t 131) (.v (.int .i64 4)),none⟩),(3, ⟨some 133, .mv (.t 132),none⟩),(4, ⟨some 134, .mv (.t 0), some (133, false)⟩),(5, ⟨some 135, .idxS (.t 134) (.v (.int .i64 1)), some (133, false)⟩),(6, ⟨some 136, .fadr 0 (.t 6), some (133, false)⟩),(7, ⟨some 137, .load 1 false (.t 136), some (133, false)⟩),(8, ⟨some 138, .bin .lss (.t 135) (.t 137), some (133, false)⟩),(9, ⟨some 139, .pick (.t 133) (.v (.bool true)) (.t 138),none⟩),(10, ⟨some 140, .mv (.t 139),none⟩),(11, ⟨some 141, .fadr 1 (.t 6), some (140, false)⟩),(12, ⟨some 142, .load 1 false (.t 141), some (140, false)⟩),(13, ⟨some 143, .mv (.t 0), some (140, false)⟩),(14, ⟨some 144, .idxS (.t 143) (.v (.int .i64 1)), some (140, false)⟩),(15, ⟨some 145, .bin .lss (.t 142) (.t 144), some (140, false)⟩),(16, ⟨some 146, .pick (.t 140) (.v (.bool true)) (.t 145),none⟩),(17, ⟨some 147, .mv (.t 146),none⟩),(18, ⟨some 148, .mv (.t 0), some (147, false)⟩),(19, ⟨some 149, .idxS (.t 148) (.v (.int .i64 2)), some (147, false)⟩),(20, ⟨some 150, .bin .lss (.t 149) (.v (.int .u8 128)), some (147, false)⟩),(21, ⟨some 151, .pick (.t 147) (.v (.bool true)) (.t 150),none⟩),(22, ⟨some 152, .mv (.t 151),none⟩),(23, ⟨some 153, .mv (.t 0), some (152, false)⟩),(24, ⟨some 154, .idxS (.t 153) (.v (.int .i64 2)), some (152, false)⟩),(25, ⟨some 155, .bin .lss (.v (.int .u8 191)) (.t 154), some (152, false)⟩),(26, ⟨some 156, .pick (.t 152) (.v (.bool true)) (.t 155),none⟩),(27, ⟨some 157, .mv (.t 156),none⟩),(28, ⟨some 158, .mv (.t 0), some (157, false)⟩),(29, ⟨some 159, .idxS (.t 158) (.v (.int .i64 3)), some (157, false)⟩),(30, ⟨some 160, .bin .lss (.t 159) (.v (.int .u8 128)), some (157, false)⟩),(31, ⟨some 161, .pick (.t 157) (.v (.bool true)) (.t 160),none⟩),(32, ⟨some 162, .mv (.t 161),none⟩),(33, ⟨some 163, .mv (.t 0), some (162, false)⟩),(34, ⟨some 164, .idxS (.t 163) (.v (.int .i64 3)), some (162, false)⟩),(35, ⟨some 165, .bin .lss (.v (.int .u8 191)) (.t 164), some (162, false)⟩),(36, ⟨some 166, .pick (.t 162) (.v (.bool true)) (.t 165),none⟩)]]
def r26 : List AO := [⟨some 2, .asg (.v (.bool false)),none⟩]
def r27 : List AO := [⟨some 167, .mv (.t 0),none⟩,⟨some 168, .slc true 1 (.t 167) (some (.v (.int .i64 4))) none,none⟩,⟨some 0, .asg (.t 168),none⟩]
def r15 : List AO := [⟨some 2, .asg (.v (.bool false)),none⟩]
def l1 : AC := .seq (.seq (.reg r1 [0, 9]) (.cond (.t 9) (.skip) (.exit 0))) (.block 1 (.seq (.reg r2 [0, 3]) (.seq (.seq (.reg r3 [0, 3, 13]) (.cond (.t 13) (.seq (.reg r4 [0]) (.seq (.seq (.reg r5 [0, 24]) (.cond (.t 24) (.seq (.reg r6 [0]) (.seq (.dreg r7 [0, 39]) (.cond (.t 39) (.seq (.reg r8 [0]) (.block 2 (.loop [0] l2))) (.skip)))) (.skip))) (.exit 1))) (.skip))) (.seq (.reg r11 [0, 4]) (.seq (.reg r12 [0, 4, 5]) (.seq (.reg r13 [0, 5, 6]) (.seq (.reg r14 [0, 6, 75]) (.block 4 (.seq (.reg r16 [0, 6, 75, 76]) (.cond (.t 76) (.seq (.seq (.dreg r17 [0, 94]) (.cond (.t 94) (.seq (.reg r18 [2]) (.ret)) (.skip))) (.reg r19 [0])) (.seq (.reg r20 [0, 6, 75, 97]) (.cond (.t 97) (.seq (.seq (.dreg r21 [0, 125]) (.cond (.t 125) (.seq (.reg r22 [2]) (.ret)) (.skip))) (.reg r23 [0])) (.seq (.reg r24 [0, 6, 128]) (.cond (.t 128) (.seq (.seq (.dreg r25 [0, 166]) (.cond (.t 166) (.seq (.reg r26 [2]) (.ret)) (.skip))) (.reg r27 [0])) (.seq (.reg r15 [2]) (.ret))))))))))))))))
def r28 : List AO := [⟨some 2, .asg (.v (.bool true)),none⟩]
def body : AC := .seq (.reg r0 [0]) (.seq (.block 0 (.loop [0] l1)) (.seq (.reg r28 [2]) (.ret)))
def fn : AFun := ⟨[.val], 169, [.tmp 2], [], body⟩
end unicode_utf8_ValidString
namespace slices_ContainsFunc_LValue_Value
def r0 : List AO := [⟨some 4, .asg (.v (.bool false)),none⟩]
def r1 : List AO := [⟨some 5, .mv (.t 0),none⟩,⟨some 6, .mv (.t 1),none⟩,⟨some 7, .call .deep (.v (.clo F.slices_IndexFunc_LValue_Value [] [])) [.t 5, .t 6],none⟩,⟨some 8, .bin .geq (.t 7) (.v (.int .i64 0)),none⟩,⟨some 4, .asg (.t 8),none⟩]
def body : AC := .seq (.reg r0 [0, 1]) (.seq (.reg r1 [4]) (.ret))
def fn : AFun := ⟨[.val, .val], 9, [.tmp 4], [], body⟩
end slices_ContainsFunc_LValue_Value
namespace value_allFormed_S1
def r0 : List AO := [⟨some 1, .box (.t 0),none⟩,⟨some 2, .asg (.v (.bool false)),none⟩]
def r1 : List AO := [⟨some 3, .take 5 true (.t 1),none⟩,⟨some 4, .call .deep (.v (.clo F.value_Formed [] [])) [.t 3],none⟩,⟨some 5, .un .not (.t 4),none⟩,⟨some 2, .asg (.t 5),none⟩]
def body : AC := .seq (.reg r0 [1]) (.seq (.reg r1 [2]) (.ret))
def fn : AFun := ⟨[.val], 6, [.tmp 2], [], body⟩
end value_allFormed_S1
namespace slices_IndexFunc_LValue_Value
def r0 : List AO := [⟨some 4, .asg (.v (.int .i64 0)),none⟩]
def r1 : List AO := [⟨some 6, .mv (.t 0),none⟩,⟨some 7, .len false (.t 6),none⟩,⟨some 8, .mv (.v (.int .i64 0)),none⟩]
def r2 : List AO := [⟨some 9, .bin .lss (.t 8) (.t 7),none⟩]
def r3 : List AO := [⟨some 10, .mv (.t 8),none⟩,⟨some 5, .asg (.t 10),none⟩]
def r4 : List AO := [⟨some 11, .mv (.t 1),none⟩,⟨some 12, .mv (.t 0),none⟩,⟨some 13, .mv (.t 5),none⟩,⟨some 14, .iadr 5 (.t 12) (.t 13),none⟩,⟨some 15, .load 5 true (.t 14),none⟩,⟨some 16, .call .deep (.t 11) [.t 15],none⟩]
def r5 : List AO := [⟨some 17, .mv (.t 5),none⟩,⟨some 4, .asg (.t 17),none⟩]
def r6 : List AO := [⟨some 18, .bin .add (.t 8) (.v (.int .i64 1)),none⟩,⟨some 8, .mv (.t 18),none⟩]
def l1 : AC := .seq (.reg r2 [0, 1, 7, 8, 9]) (.seq (.cond (.t 9) (.skip) (.exit 0)) (.seq (.block 1 (.seq (.reg r3 [0, 1, 5, 7, 8]) (.seq (.reg r4 [0, 1, 5, 7, 8, 16]) (.cond (.t 16) (.seq (.reg r5 [4]) (.ret)) (.skip))))) (.reg r6 [0, 1, 7, 8])))
def r7 : List AO := [⟨some 4, .asg (.v (.int .i64 (-1))),none⟩]
def body : AC := .seq (.reg r0 [0, 1]) (.seq (.seq (.reg r1 [0, 1, 7, 8]) (.block 0 (.loop [0, 1, 7, 8] l1))) (.seq (.reg r7 [4]) (.ret)))
def fn : AFun := ⟨[.val, .val], 19, [.tmp 4], [], body⟩
end slices_IndexFunc_LValue_Value
namespace unicode_utf8_word_string
def r0 : List AO := [⟨some 2, .asg (.v (.int .u64 0)),none⟩]
def r1 : List Ph := [.bag false [] [] [(0, ⟨some 3, .mv (.t 0),none⟩),(1, ⟨some 4, .idxS (.t 3) (.v (.int .i64 0)),none⟩),(2, ⟨some 5, .conv (.int .u64) (.t 4),none⟩),(3, ⟨some 6, .mv (.t 0),none⟩),(4, ⟨some 7, .idxS (.t 6) (.v (.int .i64 1)),none⟩),(5, ⟨some 8, .conv (.int .u64) (.t 7),none⟩),(6, ⟨some 9, .bin .shl (.t 8) (.v (.int .u64 8)),none⟩),(7, ⟨some 10, .bin .or (.t 5) (.t 9),none⟩),(8, ⟨some 11, .mv (.t 0),none⟩),(9, ⟨some 12, .idxS (.t 11) (.v (.int .i64 2)),none⟩),(10, ⟨some 13, .conv (.int .u64) (.t 12),none⟩),(11, ⟨some 14, .bin .shl (.t 13) (.v (.int .u64 16)),none⟩),(12, ⟨some 15, .bin .or (.t 10) (.t 14),none⟩),(13, ⟨some 16, .mv (.t 0),none⟩),(14, ⟨some 17, .idxS (.t 16) (.v (.int .i64 3)),none⟩),(15, ⟨some 18, .conv (.int .u64) (.t 17),none⟩),(16, ⟨some 19, .bin .shl (.t 18) (.v (.int .u64 24)),none⟩),(17, ⟨some 20, .bin .or (.t 15) (.t 19),none⟩),(18, ⟨some 2, .asg (.t 20),none⟩)]]
def r2 : List Ph := [.bag false [] [] [(0, ⟨some 21, .mv (.t 0),none⟩),(1, ⟨some 22, .idxS (.t 21) (.v (.int .i64 0)),none⟩),(2, ⟨some 23, .conv (.int .u64) (.t 22),none⟩),(3, ⟨some 24, .mv (.t 0),none⟩),(4, ⟨some 25, .idxS (.t 24) (.v (.int .i64 1)),none⟩),(5, ⟨some 26, .conv (.int .u64) (.t 25),none⟩),(6, ⟨some 27, .bin .shl (.t 26) (.v (.int .u64 8)),none⟩),(7, ⟨some 28, .bin .or (.t 23) (.t 27),none⟩),(8, ⟨some 29, .mv (.t 0),none⟩),(9, ⟨some 30, .idxS (.t 29) (.v (.int .i64 2)),none⟩),(10, ⟨some 31, .conv (.int .u64) (.t 30),none⟩),(11, ⟨some 32, .bin .shl (.t 31) (.v (.int .u64 16)),none⟩),(12, ⟨some 33, .bin .or (.t 28) (.t 32),none⟩),(13, ⟨some 34, .mv (.t 0),none⟩),(14, ⟨some 35, .idxS (.t 34) (.v (.int .i64 3)),none⟩),(15, ⟨some 36, .conv (.int .u64) (.t 35),none⟩),(16, ⟨some 37, .bin .shl (.t 36) (.v (.int .u64 24)),none⟩),(17, ⟨some 38, .bin .or (.t 33) (.t 37),none⟩),(18, ⟨some 39, .mv (.t 0),none⟩),(19, ⟨some 40, .idxS (.t 39) (.v (.int .i64 4)),none⟩),(20, ⟨some 41, .conv (.int .u64) (.t 40),none⟩),(21, ⟨some 42, .bin .shl (.t 41) (.v (.int .u64 32)),none⟩),(22, ⟨some 43, .bin .or (.t 38) (.t 42),none⟩),(23, ⟨some 44, .mv (.t 0),none⟩),(24, ⟨some 45, .idxS (.t 44) (.v (.int .i64 5)),none⟩),(25, ⟨some 46, .conv (.int .u64) (.t 45),none⟩),(26, ⟨some 47, .bin .shl (.t 46) (.v (.int .u64 40)),none⟩),(27, ⟨some 48, .bin .or (.t 43) (.t 47),none⟩),(28, ⟨some 49, .mv (.t 0),none⟩),(29, ⟨some 50, .idxS (.t 49) (.v (.int .i64 6)),none⟩),(30, ⟨some 51, .conv (.int .u64) (.t 50),none⟩),(31, ⟨some 52, .bin .shl (.t 51) (.v (.int .u64 48)),none⟩),(32, ⟨some 53, .bin .or (.t 48) (.t 52),none⟩),(33, ⟨some 54, .mv (.t 0),none⟩),(34, ⟨some 55, .idxS (.t 54) (.v (.int .i64 7)),none⟩),(35, ⟨some 56, .conv (.int .u64) (.t 55),none⟩),(36, ⟨some 57, .bin .shl (.t 56) (.v (.int .u64 56)),none⟩),(37, ⟨some 58, .bin .or (.t 53) (.t 57),none⟩),(38, ⟨some 2, .asg (.t 58),none⟩)]]
def body : AC := .seq (.reg r0 [0]) (.seq (.cond (.v (.bool false)) (.seq (.dreg r1 [2]) (.ret)) (.skip)) (.seq (.dreg r2 [2]) (.ret)))
def fn : AFun := ⟨[.val], 59, [.tmp 2], [], body⟩
end unicode_utf8_word_string
namespace hallmarkkit_SameStrings
def r0 : List AO := [⟨some 4, .asg (.v (.bool false)),none⟩]
def r1 : List AO := [⟨some 6, .mv (.t 0),none⟩,⟨some 7, .len false (.t 6),none⟩,⟨some 8, .mv (.t 1),none⟩,⟨some 9, .len false (.t 8),none⟩,⟨some 10, .bin .neq (.t 7) (.t 9),none⟩]
def r2 : List AO := [⟨some 4, .asg (.v (.bool false)),none⟩]
def r3 : List AO := [⟨some 5, .asg (.v (.int .i64 0)),none⟩]
def r4 : List AO := [⟨some 11, .mv (.t 5),none⟩,⟨some 12, .mv (.t 0),none⟩,⟨some 13, .len false (.t 12),none⟩,⟨some 14, .bin .lss (.t 11) (.t 13),none⟩]
def r6 : List Ph := [.bag false [] [0, 1] [(0, ⟨some 17, .mv (.t 0),none⟩),(1, ⟨some 18, .mv (.t 5),none⟩),(2, ⟨some 19, .iadr 1 (.t 17) (.t 18),none⟩),(3, ⟨some 20, .load 1 false (.t 19),none⟩),(4, ⟨some 21, .mv (.t 1),none⟩),(5, ⟨some 22, .mv (.t 5),none⟩),(6, ⟨some 23, .iadr 1 (.t 21) (.t 22),none⟩),(7, ⟨some 24, .load 1 false (.t 23),none⟩),(8, ⟨some 25, .bin .neq (.t 20) (.t 24),none⟩)]]
def r7 : List AO := [⟨some 4, .asg (.v (.bool false)),none⟩]
def r5 : List AO := [⟨some 15, .mv (.t 5),none⟩,⟨some 16, .bin .add (.t 15) (.v (.int .i64 1)),none⟩,⟨some 5, .asg (.t 16),none⟩]
def l1 : AC := .seq (.seq (.reg r4 [0, 1, 5, 14]) (.cond (.t 14) (.skip) (.exit 0))) (.seq (.block 1 (.seq (.dreg r6 [0, 1, 5, 25]) (.cond (.t 25) (.seq (.reg r7 [4]) (.ret)) (.skip)))) (.reg r5 [0, 1, 5]))
def r8 : List AO := [⟨some 4, .asg (.v (.bool true)),none⟩]
def body : AC := .seq (.reg r0 [0, 1]) (.seq (.seq (.reg r1 [0, 1, 10]) (.cond (.t 10) (.seq (.reg r2 [4]) (.ret)) (.skip))) (.seq (.seq (.reg r3 [0, 1, 5]) (.block 0 (.loop [0, 1, 5] l1))) (.seq (.reg r8 [4]) (.ret))))
def fn : AFun := ⟨[.val, .val], 26, [.tmp 4], [], body⟩
end hallmarkkit_SameStrings
namespace hallmarkkit_SameValue
def r0 : List AO := [⟨some 2, .box (.t 0),none⟩,⟨some 3, .box (.t 1),none⟩,⟨some 4, .asg (.v (.bool false)),none⟩]
def r1 : List AO := [⟨some 5, .fadr 0 (.t 2),none⟩,⟨some 6, .load 1 false (.t 5),none⟩,⟨some 7, .fadr 0 (.t 3),none⟩,⟨some 8, .load 1 false (.t 7),none⟩,⟨some 9, .bin .neq (.t 6) (.t 8),none⟩,⟨some 10, .mv (.t 9),none⟩,⟨some 11, .fadr 1 (.t 2), some (10, false)⟩,⟨some 12, .load 1 false (.t 11), some (10, false)⟩,⟨some 13, .fadr 1 (.t 3), some (10, false)⟩,⟨some 14, .load 1 false (.t 13), some (10, false)⟩,⟨some 15, .bin .neq (.t 12) (.t 14), some (10, false)⟩,⟨some 16, .pick (.t 10) (.v (.bool true)) (.t 15),none⟩,⟨some 17, .mv (.t 16),none⟩,⟨some 18, .fadr 2 (.t 2), some (17, false)⟩,⟨some 19, .load 1 false (.t 18), some (17, false)⟩,⟨some 20, .fadr 2 (.t 3), some (17, false)⟩,⟨some 21, .load 1 false (.t 20), some (17, false)⟩,⟨some 22, .bin .neq (.t 19) (.t 21), some (17, false)⟩,⟨some 23, .pick (.t 17) (.v (.bool true)) (.t 22),none⟩]
def r2 : List AO := [⟨some 4, .asg (.v (.bool false)),none⟩]
def r3 : List AO := [⟨some 24, .fadr 3 (.t 2),none⟩,⟨some 25, .load 1 false (.t 24),none⟩,⟨some 26, .fadr 3 (.t 3),none⟩,⟨some 27, .load 1 false (.t 26),none⟩,⟨some 28, .call .deep (.v (.clo F.hallmarkkit_SameValues [] [])) [.t 25, .t 27],none⟩,⟨some 29, .un .not (.t 28),none⟩]
def r4 : List AO := [⟨some 4, .asg (.v (.bool false)),none⟩]
def r5 : List AO := [⟨some 30, .fadr 4 (.t 2),none⟩,⟨some 31, .take 1 false (.t 30),none⟩,⟨some 32, .fadr 4 (.t 3),none⟩,⟨some 33, .take 1 false (.t 32),none⟩,⟨some 34, .call .deep (.v (.clo F.hallmarkkit_SameStrings [] [])) [.t 31, .t 33],none⟩,⟨some 35, .un .not (.t 34),none⟩]
def r6 : List AO := [⟨some 4, .asg (.v (.bool false)),none⟩]
def r7 : List AO := [⟨some 4, .asg (.v (.bool true)),none⟩]
def body : AC := .seq (.reg r0 [2, 3]) (.seq (.seq (.reg r1 [2, 3, 23]) (.cond (.t 23) (.seq (.reg r2 [4]) (.ret)) (.skip))) (.seq (.seq (.reg r3 [2, 3, 29]) (.cond (.t 29) (.seq (.reg r4 [4]) (.ret)) (.skip))) (.seq (.seq (.reg r5 [35]) (.cond (.t 35) (.seq (.reg r6 [4]) (.ret)) (.skip))) (.seq (.reg r7 [4]) (.ret)))))
def fn : AFun := ⟨[.val, .val], 36, [.tmp 4], [], body⟩
end hallmarkkit_SameValue
namespace hallmarkkit_SameValues
def r0 : List AO := [⟨some 4, .asg (.v (.bool false)),none⟩]
def r1 : List AO := [⟨some 6, .mv (.t 0),none⟩,⟨some 7, .len false (.t 6),none⟩,⟨some 8, .mv (.t 1),none⟩,⟨some 9, .len false (.t 8),none⟩,⟨some 10, .bin .neq (.t 7) (.t 9),none⟩]
def r2 : List AO := [⟨some 4, .asg (.v (.bool false)),none⟩]
def r3 : List AO := [⟨some 5, .asg (.v (.int .i64 0)),none⟩]
def r4 : List AO := [⟨some 11, .mv (.t 5),none⟩,⟨some 12, .mv (.t 0),none⟩,⟨some 13, .len false (.t 12),none⟩,⟨some 14, .bin .lss (.t 11) (.t 13),none⟩]
def r6 : List Ph := [.bag false [] [0, 1, 20, 24] [(0, ⟨some 17, .mv (.t 0),none⟩),(1, ⟨some 18, .mv (.t 5),none⟩),(2, ⟨some 19, .iadr 5 (.t 17) (.t 18),none⟩),(3, ⟨some 20, .load 5 true (.t 19),none⟩),(4, ⟨some 21, .mv (.t 1),none⟩),(5, ⟨some 22, .mv (.t 5),none⟩),(6, ⟨some 23, .iadr 5 (.t 21) (.t 22),none⟩),(7, ⟨some 24, .load 5 true (.t 23),none⟩),(8, ⟨some 25, .call .deep (.v (.clo F.hallmarkkit_SameValue [] [])) [.t 20, .t 24],none⟩),(9, ⟨some 26, .un .not (.t 25),none⟩)]]
def r7 : List AO := [⟨some 4, .asg (.v (.bool false)),none⟩]
def r5 : List AO := [⟨some 15, .mv (.t 5),none⟩,⟨some 16, .bin .add (.t 15) (.v (.int .i64 1)),none⟩,⟨some 5, .asg (.t 16),none⟩]
def l1 : AC := .seq (.seq (.reg r4 [0, 1, 5, 14]) (.cond (.t 14) (.skip) (.exit 0))) (.seq (.block 1 (.seq (.dreg r6 [0, 1, 5, 26]) (.cond (.t 26) (.seq (.reg r7 [4]) (.ret)) (.skip)))) (.reg r5 [0, 1, 5]))
def r8 : List AO := [⟨some 4, .asg (.v (.bool true)),none⟩]
def body : AC := .seq (.reg r0 [0, 1]) (.seq (.seq (.reg r1 [0, 1, 10]) (.cond (.t 10) (.seq (.reg r2 [4]) (.ret)) (.skip))) (.seq (.seq (.reg r3 [0, 1, 5]) (.block 0 (.loop [0, 1, 5] l1))) (.seq (.reg r8 [4]) (.ret))))
def fn : AFun := ⟨[.val, .val], 27, [.tmp 4], [], body⟩
end hallmarkkit_SameValues
namespace hallmarklaw07_OrderKnown
def r0 : List AO := [⟨some 0, .asg (.v (.bool false)),none⟩]
def r1 : List AO := [⟨some 14, .call .deep (.v (.clo F.hallmarklaw07_word [] [])) [.v (.str [120])],none⟩,⟨some 15, .call .deep (.v (.clo F.hallmarklaw07_word [] [])) [.v (.str [121])],none⟩,⟨some 16, .call .deep (.v (.clo F.hallmarklaw07_word [] [])) [.v (.str [122])],none⟩,⟨some 17, .buildS 3 5 [.av (.int .i64 0), .av (.str []), .av (.str []), .own 5 [], .own 1 []] [(0, 5, .t 14), (5, 5, .t 15), (10, 5, .t 16)],none⟩,⟨some 1, .asgs (.t 17),none⟩]
def r2 : List AO := [⟨some 18, .call .deep (.v (.clo F.hallmarklaw07_whole [] [])) [.v (.str [50])],none⟩,⟨some 19, .call .deep (.v (.clo F.hallmarklaw07_whole [] [])) [.v (.str [49])],none⟩,⟨some 20, .call .deep (.v (.clo F.hallmarklaw07_whole [] [])) [.v (.str [50])],none⟩,⟨some 21, .buildS 3 5 [.av (.int .i64 0), .av (.str []), .av (.str []), .own 5 [], .own 1 []] [(0, 5, .t 18), (5, 5, .t 19), (10, 5, .t 20)],none⟩,⟨some 2, .asgs (.t 21),none⟩]
def r3 : List AO := [⟨some 23, .mv (.t 1),none⟩,⟨some 24, .mv (.t 2),none⟩,⟨some 25, .call .deep (.v (.clo F.order_SortBy [] [])) [.t 23, .t 24],none⟩,⟨some 22, .mv (.t 25),none⟩,⟨some 26, .ext (.t 22) 0,none⟩,⟨some 27, .ext (.t 22) 1,none⟩,⟨some 3, .asgs (.t 26),none⟩,⟨some 4, .asg (.t 27),none⟩]
def r4 : List AO := [⟨some 29, .mv (.t 1),none⟩,⟨some 30, .mv (.t 2),none⟩,⟨some 31, .call .deep (.v (.clo F.order_Unique [] [])) [.t 29, .t 30],none⟩,⟨some 28, .mv (.t 31),none⟩,⟨some 32, .ext (.t 28) 0,none⟩,⟨some 33, .ext (.t 28) 1,none⟩,⟨some 5, .asgs (.t 32),none⟩,⟨some 6, .asg (.t 33),none⟩]
def r5 : List AO := [⟨some 35, .mv (.t 1),none⟩,⟨some 36, .mv (.t 2),none⟩,⟨some 37, .call .deep (.v (.clo F.order_Group [] [])) [.t 35, .t 36],none⟩,⟨some 34, .mv (.t 37),none⟩,⟨some 38, .ext (.t 34) 0,none⟩,⟨some 39, .ext (.t 34) 1,none⟩,⟨some 7, .asgs (.t 38),none⟩,⟨some 8, .asg (.t 39),none⟩]
def r6 : List AO := [⟨some 40, .mv (.t 4),none⟩,⟨some 41, .bin .neq (.t 40) (.v (.int .i64 0)),none⟩,⟨some 42, .mv (.t 41),none⟩,⟨some 43, .mv (.t 6), some (42, false)⟩,⟨some 44, .bin .neq (.t 43) (.v (.int .i64 0)), some (42, false)⟩,⟨some 45, .pick (.t 42) (.v (.bool true)) (.t 44),none⟩,⟨some 46, .mv (.t 45),none⟩,⟨some 47, .mv (.t 8), some (46, false)⟩,⟨some 48, .bin .neq (.t 47) (.v (.int .i64 0)), some (46, false)⟩,⟨some 49, .pick (.t 46) (.v (.bool true)) (.t 48),none⟩,⟨some 50, .mv (.t 49),none⟩,⟨some 51, .mv (.t 7), some (50, false)⟩,⟨some 52, .len false (.t 51), some (50, false)⟩,⟨some 53, .bin .neq (.t 52) (.v (.int .i64 2)), some (50, false)⟩,⟨some 54, .pick (.t 50) (.v (.bool true)) (.t 53),none⟩]
def r7 : List AO := [⟨some 0, .asg (.v (.bool false)),none⟩]
def r8 : List Ph := [.bag false [] [3, 5, 7, 55, 58, 61, 64, 65, 69, 72, 75, 76, 83, 86, 89, 90] [(0, ⟨some 55, .mv (.t 3),none⟩),(1, ⟨some 56, .mv (.t 1),none⟩),(2, ⟨some 57, .iadr 5 (.t 56) (.v (.int .i64 1)),none⟩),(3, ⟨some 58, .load 5 true (.t 57),none⟩),(4, ⟨some 59, .mv (.t 1),none⟩),(5, ⟨some 60, .iadr 5 (.t 59) (.v (.int .i64 0)),none⟩),(6, ⟨some 61, .load 5 true (.t 60),none⟩),(7, ⟨some 62, .mv (.t 1),none⟩),(8, ⟨some 63, .iadr 5 (.t 62) (.v (.int .i64 2)),none⟩),(9, ⟨some 64, .load 5 true (.t 63),none⟩),(10, ⟨some 65, .buildS 3 5 [.av (.int .i64 0), .av (.str []), .av (.str []), .own 5 [], .own 1 []] [(0, 5, .t 58), (5, 5, .t 61), (10, 5, .t 64)],none⟩),(11, ⟨some 66, .call .deep (.v (.clo F.hallmarkkit_SameValues [] [])) [.t 55, .t 65],none⟩),(12, ⟨some 67, .un .not (.t 66),none⟩),(13, ⟨some 68, .mv (.t 67),none⟩),(14, ⟨some 69, .mv (.t 5), some (68, false)⟩),(15, ⟨some 70, .mv (.t 1), some (68, false)⟩),(16, ⟨some 71, .iadr 5 (.t 70) (.v (.int .i64 1)), some (68, false)⟩),(17, ⟨some 72, .load 5 true (.t 71), some (68, false)⟩),(18, ⟨some 73, .mv (.t 1), some (68, false)⟩),(19, ⟨some 74, .iadr 5 (.t 73) (.v (.int .i64 0)), some (68, false)⟩),(20, ⟨some 75, .load 5 true (.t 74), some (68, false)⟩),(21, ⟨some 76, .buildS 2 5 [.av (.int .i64 0), .av (.str []), .av (.str []), .own 5 [], .own 1 []] [(0, 5, .t 72), (5, 5, .t 75)], some (68, false)⟩),(22, ⟨some 77, .call .deep (.v (.clo F.hallmarkkit_SameValues [] [])) [.t 69, .t 76], some (68, false)⟩),(23, ⟨some 78, .un .not (.t 77), some (68, false)⟩),(24, ⟨some 79, .pick (.t 68) (.v (.bool true)) (.t 78),none⟩),(25, ⟨some 80, .mv (.t 79),none⟩),(26, ⟨some 81, .mv (.t 7), some (80, false)⟩),(27, ⟨some 82, .iadr 1 (.t 81) (.v (.int .i64 1)), some (80, false)⟩),(28, ⟨some 83, .load 1 false (.t 82), some (80, false)⟩),(29, ⟨some 84, .mv (.t 1), some (80, false)⟩),(30, ⟨some 85, .iadr 5 (.t 84) (.v (.int .i64 0)), some (80, false)⟩),(31, ⟨some 86, .load 5 true (.t 85), some (80, false)⟩),(32, ⟨some 87, .mv (.t 1), some (80, false)⟩),(33, ⟨some 88, .iadr 5 (.t 87) (.v (.int .i64 2)), some (80, false)⟩),(34, ⟨some 89, .load 5 true (.t 88), some (80, false)⟩),(35, ⟨some 90, .buildS 2 5 [.av (.int .i64 0), .av (.str []), .av (.str []), .own 5 [], .own 1 []] [(0, 5, .t 86), (5, 5, .t 89)], some (80, false)⟩),(36, ⟨some 91, .call .deep (.v (.clo F.hallmarkkit_SameValues [] [])) [.t 83, .t 90], some (80, false)⟩),(37, ⟨some 92, .un .not (.t 91), some (80, false)⟩),(38, ⟨some 93, .pick (.t 80) (.v (.bool true)) (.t 92),none⟩)]]
def r9 : List AO := [⟨some 0, .asg (.v (.bool false)),none⟩]
def r10 : List AO := [⟨some 95, .call .deep (.v (.clo F.hallmarklaw07_whole [] [])) [.v (.str [49])],none⟩,⟨some 96, .call .deep (.v (.clo F.hallmarklaw07_whole [] [])) [.v (.str [51])],none⟩,⟨some 97, .buildS 2 5 [.av (.int .i64 0), .av (.str []), .av (.str []), .own 5 [], .own 1 []] [(0, 5, .t 95), (5, 5, .t 96)],none⟩,⟨some 98, .call .deep (.v (.clo F.hallmarklaw07_whole [] [])) [.v (.str [50])],none⟩,⟨some 99, .call .deep (.v (.clo F.hallmarklaw07_whole [] [])) [.v (.str [51])],none⟩,⟨some 100, .buildS 2 5 [.av (.int .i64 0), .av (.str []), .av (.str []), .own 5 [], .own 1 []] [(0, 5, .t 98), (5, 5, .t 99)],none⟩,⟨some 101, .call .deep (.v (.clo F.order_Merge [] [])) [.t 97, .t 100],none⟩,⟨some 94, .mv (.t 101),none⟩,⟨some 102, .ext (.t 94) 0,none⟩,⟨some 103, .ext (.t 94) 1,none⟩,⟨some 9, .asgs (.t 102),none⟩,⟨some 4, .asg (.t 103),none⟩]
def r11 : List AO := [⟨some 104, .mv (.t 4),none⟩,⟨some 105, .bin .neq (.t 104) (.v (.int .i64 0)),none⟩,⟨some 106, .mv (.t 105),none⟩,⟨some 107, .mv (.t 9), some (106, false)⟩,⟨some 108, .call .deep (.v (.clo F.hallmarklaw07_whole [] [])) [.v (.str [49])], some (106, false)⟩,⟨some 109, .call .deep (.v (.clo F.hallmarklaw07_whole [] [])) [.v (.str [50])], some (106, false)⟩,⟨some 110, .call .deep (.v (.clo F.hallmarklaw07_whole [] [])) [.v (.str [51])], some (106, false)⟩,⟨some 111, .call .deep (.v (.clo F.hallmarklaw07_whole [] [])) [.v (.str [51])], some (106, false)⟩,⟨some 112, .buildS 4 5 [.av (.int .i64 0), .av (.str []), .av (.str []), .own 5 [], .own 1 []] [(0, 5, .t 108), (5, 5, .t 109), (10, 5, .t 110), (15, 5, .t 111)], some (106, false)⟩,⟨some 113, .call .deep (.v (.clo F.hallmarkkit_SameValues [] [])) [.t 107, .t 112], some (106, false)⟩,⟨some 114, .un .not (.t 113), some (106, false)⟩,⟨some 115, .pick (.t 106) (.v (.bool true)) (.t 114),none⟩]
def r12 : List AO := [⟨some 0, .asg (.v (.bool false)),none⟩]
def r13 : List AO := [⟨some 117, .call .deep (.v (.clo F.hallmarklaw07_whole [] [])) [.v (.str [50])],none⟩,⟨some 118, .call .deep (.v (.clo F.hallmarklaw07_whole [] [])) [.v (.str [49])],none⟩,⟨some 119, .call .deep (.v (.clo F.hallmarklaw07_whole [] [])) [.v (.str [49])],none⟩,⟨some 120, .buildS 3 5 [.av (.int .i64 0), .av (.str []), .av (.str []), .own 5 [], .own 1 []] [(0, 5, .t 117), (5, 5, .t 118), (10, 5, .t 119)],none⟩,⟨some 121, .call .deep (.v (.clo F.order_Least [] [])) [.t 120],none⟩,⟨some 116, .mv (.t 121),none⟩,⟨some 122, .ext (.t 116) 0,none⟩,⟨some 123, .ext (.t 116) 1,none⟩,⟨some 10, .asg (.t 122),none⟩,⟨some 4, .asg (.t 123),none⟩]
def r14 : List AO := [⟨some 125, .call .deep (.v (.clo F.hallmarklaw07_whole [] [])) [.v (.str [50])],none⟩,⟨some 126, .call .deep (.v (.clo F.hallmarklaw07_whole [] [])) [.v (.str [51])],none⟩,⟨some 127, .call .deep (.v (.clo F.hallmarklaw07_whole [] [])) [.v (.str [51])],none⟩,⟨some 128, .buildS 3 5 [.av (.int .i64 0), .av (.str []), .av (.str []), .own 5 [], .own 1 []] [(0, 5, .t 125), (5, 5, .t 126), (10, 5, .t 127)],none⟩,⟨some 129, .call .deep (.v (.clo F.order_Greatest [] [])) [.t 128],none⟩,⟨some 124, .mv (.t 129),none⟩,⟨some 130, .ext (.t 124) 0,none⟩,⟨some 131, .ext (.t 124) 1,none⟩,⟨some 11, .asg (.t 130),none⟩,⟨some 6, .asg (.t 131),none⟩]
def r15 : List AO := [⟨some 133, .mv (.t 9),none⟩,⟨some 134, .call .deep (.v (.clo F.hallmarklaw07_whole [] [])) [.v (.str [51])],none⟩,⟨some 135, .call .deep (.v (.clo F.order_Search [] [])) [.t 133, .t 134],none⟩,⟨some 132, .mv (.t 135),none⟩,⟨some 136, .ext (.t 132) 0,none⟩,⟨some 137, .ext (.t 132) 1,none⟩,⟨some 138, .ext (.t 132) 2,none⟩,⟨some 12, .asg (.t 136),none⟩,⟨some 13, .asg (.t 137),none⟩,⟨some 8, .asg (.t 138),none⟩]
def r16 : List AO := [⟨some 139, .mv (.t 10),none⟩,⟨some 140, .bin .neq (.t 139) (.v (.int .i64 1)),none⟩,⟨some 141, .mv (.t 140),none⟩,⟨some 142, .mv (.t 11), some (141, false)⟩,⟨some 143, .bin .neq (.t 142) (.v (.int .i64 2)), some (141, false)⟩,⟨some 144, .pick (.t 141) (.v (.bool true)) (.t 143),none⟩,⟨some 145, .mv (.t 144),none⟩,⟨some 146, .mv (.t 12), some (145, false)⟩,⟨some 147, .bin .neq (.t 146) (.v (.int .i64 2)), some (145, false)⟩,⟨some 148, .pick (.t 145) (.v (.bool true)) (.t 147),none⟩,⟨some 149, .mv (.t 148),none⟩,⟨some 150, .mv (.t 13), some (149, false)⟩,⟨some 151, .un .not (.t 150), some (149, false)⟩,⟨some 152, .pick (.t 149) (.v (.bool true)) (.t 151),none⟩,⟨some 153, .mv (.t 152),none⟩,⟨some 154, .mv (.t 4), some (153, false)⟩,⟨some 155, .bin .neq (.t 154) (.v (.int .i64 0)), some (153, false)⟩,⟨some 156, .pick (.t 153) (.v (.bool true)) (.t 155),none⟩,⟨some 157, .mv (.t 156),none⟩,⟨some 158, .mv (.t 6), some (157, false)⟩,⟨some 159, .bin .neq (.t 158) (.v (.int .i64 0)), some (157, false)⟩,⟨some 160, .pick (.t 157) (.v (.bool true)) (.t 159),none⟩,⟨some 161, .mv (.t 160),none⟩,⟨some 162, .mv (.t 8), some (161, false)⟩,⟨some 163, .bin .neq (.t 162) (.v (.int .i64 0)), some (161, false)⟩,⟨some 164, .pick (.t 161) (.v (.bool true)) (.t 163),none⟩]
def r17 : List AO := [⟨some 0, .asg (.v (.bool false)),none⟩]
def r18 : List AO := [⟨some 166, .mv (.t 1),none⟩,⟨some 167, .mv (.t 2),none⟩,⟨some 168, .slc false 5 (.t 167) none (some (.v (.int .i64 2))),none⟩,⟨some 169, .call .deep (.v (.clo F.order_SortBy [] [])) [.t 166, .t 168],none⟩,⟨some 165, .mv (.t 169),none⟩,⟨some 170, .ext (.t 165) 0,none⟩,⟨some 171, .ext (.t 165) 1,none⟩,⟨some 4, .asg (.t 171),none⟩]
def r19 : List AO := [⟨some 173, .call .deep (.v (.clo F.hallmarklaw07_whole [] [])) [.v (.str [50])],none⟩,⟨some 174, .call .deep (.v (.clo F.hallmarklaw07_whole [] [])) [.v (.str [49])],none⟩,⟨some 175, .buildS 2 5 [.av (.int .i64 0), .av (.str []), .av (.str []), .own 5 [], .own 1 []] [(0, 5, .t 173), (5, 5, .t 174)],none⟩,⟨some 176, .call .deep (.v (.clo F.order_Merge [] [])) [.t 175, .w [.own 5 []] false],none⟩,⟨some 172, .mv (.t 176),none⟩,⟨some 177, .ext (.t 172) 0,none⟩,⟨some 178, .ext (.t 172) 1,none⟩,⟨some 6, .asg (.t 178),none⟩]
def r20 : List AO := [⟨some 180, .build [.av (.int .i64 0), .av (.str []), .av (.str []), .own 5 [], .own 1 []] [(0, 1, .v (.int .i64 9))],none⟩,⟨some 181, .buildS 1 5 [.av (.int .i64 0), .av (.str []), .av (.str []), .own 5 [], .own 1 []] [(0, 5, .t 180)],none⟩,⟨some 182, .call .deep (.v (.clo F.order_Sort [] [])) [.t 181],none⟩,⟨some 179, .mv (.t 182),none⟩,⟨some 183, .ext (.t 179) 0,none⟩,⟨some 184, .ext (.t 179) 1,none⟩,⟨some 8, .asg (.t 184),none⟩]
def r21 : List AO := [⟨some 185, .mv (.t 4),none⟩,⟨some 186, .bin .eql (.t 185) (.v (.int .i64 2)),none⟩,⟨some 187, .mv (.t 186),none⟩,⟨some 188, .mv (.t 6), some (187, true)⟩,⟨some 189, .bin .eql (.t 188) (.v (.int .i64 2)), some (187, true)⟩,⟨some 190, .pick (.t 187) (.t 189) (.v (.bool false)),none⟩,⟨some 191, .mv (.t 190),none⟩,⟨some 192, .mv (.t 8), some (191, true)⟩,⟨some 193, .bin .eql (.t 192) (.v (.int .i64 1)), some (191, true)⟩,⟨some 194, .pick (.t 191) (.t 193) (.v (.bool false)),none⟩,⟨some 0, .asg (.t 194),none⟩]
def body : AC := .seq (.reg r0 []) (.seq (.reg r1 [1]) (.seq (.reg r2 [1, 2]) (.seq (.reg r3 [1, 2, 3, 4]) (.seq (.reg r4 [1, 2, 3, 4, 5, 6]) (.seq (.reg r5 [1, 2, 3, 4, 5, 6, 7, 8]) (.seq (.seq (.reg r6 [1, 2, 3, 5, 7, 54]) (.cond (.t 54) (.seq (.reg r7 [0]) (.ret)) (.skip))) (.seq (.seq (.dreg r8 [1, 2, 93]) (.cond (.t 93) (.seq (.reg r9 [0]) (.ret)) (.skip))) (.seq (.reg r10 [1, 2, 4, 9]) (.seq (.seq (.reg r11 [1, 2, 9, 115]) (.cond (.t 115) (.seq (.reg r12 [0]) (.ret)) (.skip))) (.seq (.reg r13 [1, 2, 4, 9, 10]) (.seq (.reg r14 [1, 2, 4, 6, 9, 10, 11]) (.seq (.reg r15 [1, 2, 4, 6, 8, 10, 11, 12, 13]) (.seq (.seq (.reg r16 [1, 2, 164]) (.cond (.t 164) (.seq (.reg r17 [0]) (.ret)) (.skip))) (.seq (.reg r18 [4]) (.seq (.reg r19 [4, 6]) (.seq (.reg r20 [4, 6, 8]) (.seq (.reg r21 [0]) (.ret))))))))))))))))))
def fn : AFun := ⟨[], 195, [.tmp 0], [], body⟩
end hallmarklaw07_OrderKnown
namespace hallmarklaw07_word
def r0 : List AO := [⟨some 2, .alloc [.av (.int .i64 0), .av (.str []), .av (.str []), .own 5 [], .own 1 []],none⟩]
def r1 : List AO := [⟨some 3, .mv (.t 0),none⟩,⟨some 4, .build [.av (.int .i64 0), .av (.str []), .av (.str []), .own 5 [], .own 1 []] [(0, 1, .v (.int .i64 4)), (2, 1, .t 3)],none⟩,⟨none, .store 5 (.t 2) (.t 4),none⟩]
def body : AC := .seq (.reg r0 [0, 2]) (.seq (.reg r1 [2]) (.ret))
def fn : AFun := ⟨[.val], 5, [.cell 2 5 true], [], body⟩
end hallmarklaw07_word
namespace hallmarklaw07_whole
def r0 : List AO := [⟨some 2, .alloc [.av (.int .i64 0), .av (.str []), .av (.str []), .own 5 [], .own 1 []],none⟩]
def r1 : List AO := [⟨some 3, .mv (.t 0),none⟩,⟨some 4, .build [.av (.int .i64 0), .av (.str []), .av (.str []), .own 5 [], .own 1 []] [(0, 1, .v (.int .i64 3)), (1, 1, .t 3)],none⟩,⟨none, .store 5 (.t 2) (.t 4),none⟩]
def body : AC := .seq (.reg r0 [0, 2]) (.seq (.reg r1 [2]) (.ret))
def fn : AFun := ⟨[.val], 5, [.cell 2 5 true], [], body⟩
end hallmarklaw07_whole
namespace order_SortBy
def r0 : List AO := [⟨some 4, .asgo (.w [.own 5 []] false),none⟩,⟨some 5, .asg (.v (.int .i64 0)),none⟩]
def r1 : List AO := [⟨some 12, .mv (.t 0),none⟩,⟨some 13, .mv (.t 1),none⟩,⟨some 14, .call .deep (.v (.clo F.order_pairs [] [])) [.t 12, .t 13],none⟩,⟨some 11, .mv (.t 14),none⟩,⟨some 15, .ext (.t 11) 0,none⟩,⟨some 16, .ext (.t 11) 1,none⟩,⟨some 6, .asgo (.t 15),none⟩,⟨some 7, .asg (.t 16),none⟩]
def r2 : List AO := [⟨some 8, .asgo (.w [.own 5 []] false),none⟩]
def r3 : List AO := [⟨some 17, .mvt 6,none⟩,⟨some 18, .len false (.t 17),none⟩,⟨some 19, .mv (.v (.int .i64 0)),none⟩]
def r4 : List AO := [⟨some 20, .bin .lss (.t 19) (.t 18),none⟩]
def r5 : List AO := [⟨some 21, .iadr 10 (.t 17) (.t 19),none⟩,⟨some 22, .load 10 true (.t 21),none⟩,⟨some 10, .alloc [.av (.int .i64 0), .av (.str []), .av (.str []), .own 5 [], .own 1 [], .av (.int .i64 0), .av (.str []), .av (.str []), .own 5 [], .own 1 []],none⟩,⟨none, .store 10 (.t 10) (.t 22),none⟩]
def r6 : List AO := [⟨some 23, .mvt 8,none⟩,⟨some 24, .fadr 0 (.t 10),none⟩,⟨some 25, .take 5 true (.t 24),none⟩,⟨some 26, .buildS 1 5 [.av (.int .i64 0), .av (.str []), .av (.str []), .own 5 [], .own 1 []] [(0, 5, .t 25)],none⟩,⟨some 27, .append 88 5 (.t 23) (.t 26),none⟩,⟨some 8, .asgo (.t 27),none⟩]
def r7 : List AO := [⟨some 28, .bin .add (.t 19) (.v (.int .i64 1)),none⟩,⟨some 19, .mv (.t 28),none⟩]
def l1 : AC := .seq (.reg r4 [7, 8, 17, 18, 19, 20]) (.seq (.cond (.t 20) (.skip) (.exit 0)) (.seq (.block 1 (.seq (.reg r5 [7, 8, 10, 17, 18, 19]) (.reg r6 [7, 8, 17, 18, 19]))) (.reg r7 [7, 8, 17, 18, 19])))
def r8 : List AO := [⟨some 29, .mvt 8,none⟩,⟨some 30, .mv (.t 7),none⟩,⟨some 4, .asgo (.t 29),none⟩,⟨some 5, .asg (.t 30),none⟩]
def body : AC := .seq (.reg r0 [0, 1]) (.seq (.reg r1 [6, 7]) (.seq (.reg r2 [6, 7, 8]) (.seq (.seq (.reg r3 [7, 8, 17, 18, 19]) (.block 0 (.loop [7, 8, 17, 18, 19] l1))) (.seq (.reg r8 [4, 5]) (.ret)))))
def fn : AFun := ⟨[.val, .val], 31, [.tmp 4, .tmp 5], [4, 6, 8], body⟩
end order_SortBy
namespace order_Unique
def r0 : List AO := [⟨some 4, .asgo (.w [.own 5 []] false),none⟩,⟨some 5, .asg (.v (.int .i64 0)),none⟩]
def r1 : List AO := [⟨some 12, .mv (.t 0),none⟩,⟨some 13, .mv (.t 1),none⟩,⟨some 14, .call .deep (.v (.clo F.order_Group [] [])) [.t 12, .t 13],none⟩,⟨some 11, .mv (.t 14),none⟩,⟨some 15, .ext (.t 11) 0,none⟩,⟨some 16, .ext (.t 11) 1,none⟩,⟨some 6, .asgo (.t 15),none⟩,⟨some 7, .asg (.t 16),none⟩]
def r2 : List AO := [⟨some 8, .asgo (.w [.own 5 []] false),none⟩]
def r3 : List AO := [⟨some 17, .mvt 6,none⟩,⟨some 18, .len false (.t 17),none⟩,⟨some 19, .mv (.v (.int .i64 0)),none⟩]
def r4 : List AO := [⟨some 20, .bin .lss (.t 19) (.t 18),none⟩]
def r5 : List AO := [⟨some 21, .iadr 1 (.t 17) (.t 19),none⟩,⟨some 22, .load 1 false (.t 21),none⟩,⟨some 10, .asgo (.t 22),none⟩]
def r6 : List AO := [⟨some 23, .mvt 8,none⟩,⟨some 24, .mvt 10,none⟩,⟨some 25, .iadr 5 (.t 24) (.v (.int .i64 0)),none⟩,⟨some 26, .load 5 true (.t 25),none⟩,⟨some 27, .buildS 1 5 [.av (.int .i64 0), .av (.str []), .av (.str []), .own 5 [], .own 1 []] [(0, 5, .t 26)],none⟩,⟨some 28, .append 88 5 (.t 23) (.t 27),none⟩,⟨some 8, .asgo (.t 28),none⟩]
def r7 : List AO := [⟨some 29, .bin .add (.t 19) (.v (.int .i64 1)),none⟩,⟨some 19, .mv (.t 29),none⟩]
def l1 : AC := .seq (.reg r4 [7, 8, 17, 18, 19, 20]) (.seq (.cond (.t 20) (.skip) (.exit 0)) (.seq (.block 1 (.seq (.reg r5 [7, 8, 10, 17, 18, 19]) (.reg r6 [7, 8, 17, 18, 19]))) (.reg r7 [7, 8, 17, 18, 19])))
def r8 : List AO := [⟨some 30, .mvt 8,none⟩,⟨some 31, .mv (.t 7),none⟩,⟨some 4, .asgo (.t 30),none⟩,⟨some 5, .asg (.t 31),none⟩]
def body : AC := .seq (.reg r0 [0, 1]) (.seq (.reg r1 [6, 7]) (.seq (.reg r2 [6, 7, 8]) (.seq (.seq (.reg r3 [7, 8, 17, 18, 19]) (.block 0 (.loop [7, 8, 17, 18, 19] l1))) (.seq (.reg r8 [4, 5]) (.ret)))))
def fn : AFun := ⟨[.val, .val], 32, [.tmp 4, .tmp 5], [4, 6, 8, 10], body⟩
end order_Unique
namespace order_Group
def r0 : List AO := [⟨some 4, .asgo (.w [.own 1 []] false),none⟩,⟨some 5, .asg (.v (.int .i64 0)),none⟩]
def r1 : List AO := [⟨some 13, .mv (.t 0),none⟩,⟨some 14, .mv (.t 1),none⟩,⟨some 15, .call .deep (.v (.clo F.order_pairs [] [])) [.t 13, .t 14],none⟩,⟨some 12, .mv (.t 15),none⟩,⟨some 16, .ext (.t 12) 0,none⟩,⟨some 17, .ext (.t 12) 1,none⟩,⟨some 6, .asgo (.t 16),none⟩,⟨some 7, .asg (.t 17),none⟩]
def r2 : List AO := [⟨some 8, .asgo (.w [.own 1 []] false),none⟩]
def r3 : List AO := [⟨some 18, .mvr 6,none⟩,⟨some 19, .len false (.t 18),none⟩,⟨some 20, .mv (.v (.int .i64 0)),none⟩]
def r4 : List AO := [⟨some 21, .bin .lss (.t 20) (.t 19),none⟩]
def r5 : List AO := [⟨some 22, .mv (.t 20),none⟩,⟨some 23, .iadr 10 (.t 18) (.t 20),none⟩,⟨some 24, .load 10 true (.t 23),none⟩,⟨some 10, .alloc [.av (.int .i64 0), .av (.str []), .av (.str []), .own 5 [], .own 1 [], .av (.int .i64 0), .av (.str []), .av (.str []), .own 5 [], .own 1 []],none⟩,⟨some 9, .asg (.t 22),none⟩,⟨none, .store 10 (.t 10) (.t 24),none⟩]
def r6 : List Ph := [.bag false [] [29, 35] [(0, ⟨some 25, .mv (.t 9),none⟩),(1, ⟨some 26, .bin .eql (.t 25) (.v (.int .i64 0)),none⟩),(2, ⟨some 27, .mv (.t 26),none⟩),(3, ⟨some 28, .fadr 5 (.t 10), some (27, false)⟩),(4, ⟨some 29, .load 5 true (.t 28), some (27, false)⟩),(5, ⟨some 30, .mvr 6, some (27, false)⟩),(6, ⟨some 31, .mv (.t 9), some (27, false)⟩),(7, ⟨some 32, .bin .sub (.t 31) (.v (.int .i64 1)), some (27, false)⟩),(8, ⟨some 33, .iadr 10 (.t 30) (.t 32), some (27, false)⟩),(9, ⟨some 34, .fadr 5 (.t 33), some (27, false)⟩),(10, ⟨some 35, .load 5 true (.t 34), some (27, false)⟩),(11, ⟨some 36, .call .deep (.v (.clo F.value_Cmp [] [])) [.t 29, .t 35], some (27, false)⟩),(12, ⟨some 37, .bin .neq (.t 36) (.v (.int .i64 0)), some (27, false)⟩),(13, ⟨some 38, .pick (.t 27) (.v (.bool true)) (.t 37),none⟩)]]
def r7 : List AO := [⟨some 39, .mvt 8,none⟩,⟨some 40, .buildS 1 1 [.own 5 []] [(0, 1, .w [.own 5 []] false)],none⟩,⟨some 41, .append 24 1 (.t 39) (.t 40),none⟩,⟨some 8, .asgo (.t 41),none⟩]
def r8 : List AO := [⟨some 42, .mvr 8,none⟩,⟨some 43, .len false (.t 42),none⟩,⟨some 44, .bin .sub (.t 43) (.v (.int .i64 1)),none⟩,⟨some 11, .asg (.t 44),none⟩]
def r9 : List Ph := [.bag false [] [11] [(0, ⟨some 45, .mvh 8,none⟩),(1, ⟨some 46, .mv (.t 11),none⟩),(2, ⟨some 47, .iadrH 1 45 (.t 46),none⟩),(3, ⟨some 48, .load 1 false (.t 47),none⟩),(4, ⟨some 49, .fadr 0 (.t 10),none⟩),(5, ⟨some 50, .load 5 true (.t 49),none⟩),(6, ⟨some 51, .len false (.t 48),none⟩),(7, ⟨some 52, .buildS 1 5 [.av (.int .i64 0), .av (.str []), .av (.str []), .own 5 [], .own 1 []] [(0, 5, .w [.av (.int .i64 0), .av (.str []), .av (.str []), .own 5 [], .own 1 []] true)],none⟩)],.one 8 ⟨some 53, .appendR 88 5 (.t 48) (.t 52),none⟩,.bag false [9, 11] [] [(9, ⟨some 54, .iadrR 5 53 (.t 51),none⟩),(11, ⟨some 55, .iadrH 1 45 (.t 46),none⟩)],.pair 10 ⟨none, .store 5 (.t 54) (.t 50),none⟩ 12 ⟨none, .storeR 1 (.t 55) 53,none⟩]
def r10 : List AO := [⟨some 56, .bin .add (.t 20) (.v (.int .i64 1)),none⟩,⟨some 20, .mv (.t 56),none⟩]
def l1 : AC := .seq (.reg r4 [6, 7, 8, 18, 19, 20, 21]) (.seq (.cond (.t 21) (.skip) (.exit 0)) (.seq (.block 1 (.seq (.reg r5 [6, 7, 8, 9, 10, 18, 19, 20]) (.seq (.seq (.dreg r6 [6, 7, 8, 10, 18, 19, 20, 38]) (.cond (.t 38) (.reg r7 [6, 7, 8, 10, 18, 19, 20]) (.skip))) (.seq (.reg r8 [6, 7, 8, 10, 11, 18, 19, 20]) (.dreg r9 [6, 7, 8, 18, 19, 20]))))) (.reg r10 [6, 7, 8, 18, 19, 20])))
def r11 : List AO := [⟨some 57, .mvt 8,none⟩,⟨some 58, .mv (.t 7),none⟩,⟨some 4, .asgo (.t 57),none⟩,⟨some 5, .asg (.t 58),none⟩]
def body : AC := .seq (.reg r0 [0, 1]) (.seq (.reg r1 [6, 7]) (.seq (.reg r2 [6, 7, 8]) (.seq (.seq (.reg r3 [6, 7, 8, 18, 19, 20]) (.block 0 (.loop [6, 7, 8, 18, 19, 20] l1))) (.seq (.reg r11 [4, 5]) (.ret)))))
def fn : AFun := ⟨[.val, .val], 59, [.tmp 4, .tmp 5], [4, 6, 8, 53], body⟩
end order_Group
namespace order_Merge
def r0 : List AO := [⟨some 4, .asgo (.w [.own 5 []] false),none⟩,⟨some 5, .asg (.v (.int .i64 0)),none⟩]
def r1 : List AO := [⟨some 7, .mv (.t 0),none⟩,⟨some 8, .mv (.t 1),none⟩,⟨some 9, .buildS 2 1 [.own 5 []] [(0, 1, .t 7), (1, 1, .t 8)],none⟩,⟨some 10, .call .deep (.v (.clo F.order_formed [] [])) [.t 9],none⟩,⟨some 11, .un .not (.t 10),none⟩,⟨some 6, .asg (.t 11),none⟩]
def r2 : List AO := [⟨some 4, .asgo (.w [.own 5 []] false),none⟩,⟨some 5, .asg (.v (.int .i64 1)),none⟩]
def r3 : List AO := [⟨some 13, .mv (.t 0),none⟩,⟨some 14, .call .deep (.v (.clo F.order_rises [] [])) [.t 13],none⟩,⟨some 15, .un .not (.t 14),none⟩,⟨some 16, .mv (.t 15),none⟩,⟨some 17, .mv (.t 1), some (16, false)⟩,⟨some 18, .call .deep (.v (.clo F.order_rises [] [])) [.t 17], some (16, false)⟩,⟨some 19, .un .not (.t 18), some (16, false)⟩,⟨some 20, .pick (.t 16) (.v (.bool true)) (.t 19),none⟩,⟨some 12, .asg (.t 20),none⟩]
def r4 : List AO := [⟨some 4, .asgo (.w [.own 5 []] false),none⟩,⟨some 5, .asg (.v (.int .i64 2)),none⟩]
def r5 : List AO := [⟨some 21, .mv (.t 0),none⟩,⟨some 22, .call .deep (.v (.clo F.order_twins [] [])) [.t 21],none⟩,⟨some 23, .mv (.t 1),none⟩,⟨some 24, .call .deep (.v (.clo F.order_twins [] [])) [.t 23],none⟩,⟨some 25, .call .deep (.v (.clo F.order_merged_Value [] [])) [.t 22, .t 24, .v (.clo F.value_Cmp [] [])],none⟩,⟨some 4, .asgo (.t 25),none⟩,⟨some 5, .asg (.v (.int .i64 0)),none⟩]
def body : AC := .seq (.reg r0 [0, 1]) (.seq (.block 0 (.seq (.reg r1 [0, 1, 6]) (.cond (.t 6) (.seq (.reg r2 [4, 5]) (.ret)) (.seq (.reg r3 [0, 1, 12]) (.cond (.t 12) (.seq (.reg r4 [4, 5]) (.ret)) (.skip)))))) (.seq (.reg r5 [4, 5]) (.ret)))
def fn : AFun := ⟨[.val, .val], 26, [.tmp 4, .tmp 5], [4], body⟩
end order_Merge
namespace order_Least
def r0 : List AO := [⟨some 2, .asg (.v (.int .i64 0)),none⟩,⟨some 3, .asg (.v (.int .i64 0)),none⟩]
def r1 : List AO := [⟨some 4, .mv (.t 0),none⟩,⟨some 5, .call .deep (.v (.clo F.order_best [] [])) [.t 4, .v (.clo F.order_Least_S1 [] [])],none⟩,⟨some 6, .ext (.t 5) 0,none⟩,⟨some 7, .ext (.t 5) 1,none⟩,⟨some 2, .asg (.t 6),none⟩,⟨some 3, .asg (.t 7),none⟩]
def body : AC := .seq (.reg r0 [0]) (.seq (.reg r1 [2, 3]) (.ret))
def fn : AFun := ⟨[.val], 8, [.tmp 2, .tmp 3], [], body⟩
end order_Least
namespace order_Greatest
def r0 : List AO := [⟨some 2, .asg (.v (.int .i64 0)),none⟩,⟨some 3, .asg (.v (.int .i64 0)),none⟩]
def r1 : List AO := [⟨some 4, .mv (.t 0),none⟩,⟨some 5, .call .deep (.v (.clo F.order_best [] [])) [.t 4, .v (.clo F.order_Greatest_S1 [] [])],none⟩,⟨some 6, .ext (.t 5) 0,none⟩,⟨some 7, .ext (.t 5) 1,none⟩,⟨some 2, .asg (.t 6),none⟩,⟨some 3, .asg (.t 7),none⟩]
def body : AC := .seq (.reg r0 [0]) (.seq (.reg r1 [2, 3]) (.ret))
def fn : AFun := ⟨[.val], 8, [.tmp 2, .tmp 3], [], body⟩
end order_Greatest
namespace order_Search
def r0 : List AO := [⟨some 3, .box (.t 1),none⟩,⟨some 4, .asg (.v (.int .i64 0)),none⟩,⟨some 5, .asg (.v (.bool false)),none⟩,⟨some 6, .asg (.v (.int .i64 0)),none⟩]
def r1 : List AO := [⟨some 11, .mv (.t 0),none⟩,⟨some 12, .buildS 1 1 [.own 5 []] [(0, 1, .t 11)],none⟩,⟨some 13, .call .deep (.v (.clo F.order_formed [] [])) [.t 12],none⟩,⟨some 14, .un .not (.t 13),none⟩,⟨some 15, .mv (.t 14),none⟩,⟨some 16, .load 5 true (.t 3), some (15, false)⟩,⟨some 17, .call .deep (.v (.clo F.value_Formed [] [])) [.t 16], some (15, false)⟩,⟨some 18, .un .not (.t 17), some (15, false)⟩,⟨some 19, .pick (.t 15) (.v (.bool true)) (.t 18),none⟩,⟨some 10, .asg (.t 19),none⟩]
def r2 : List AO := [⟨some 4, .asg (.v (.int .i64 0)),none⟩,⟨some 5, .asg (.v (.bool false)),none⟩,⟨some 6, .asg (.v (.int .i64 1)),none⟩]
def r3 : List AO := [⟨some 21, .mv (.t 0),none⟩,⟨some 22, .call .deep (.v (.clo F.order_rises [] [])) [.t 21],none⟩,⟨some 23, .un .not (.t 22),none⟩,⟨some 20, .asg (.t 23),none⟩]
def r4 : List AO := [⟨some 4, .asg (.v (.int .i64 0)),none⟩,⟨some 5, .asg (.v (.bool false)),none⟩,⟨some 6, .asg (.v (.int .i64 2)),none⟩]
def r5 : List AO := [⟨some 24, .mv (.t 0),none⟩,⟨some 25, .len false (.t 24),none⟩,⟨some 7, .asg (.v (.int .i64 0)),none⟩,⟨some 8, .asg (.t 25),none⟩]
def r6 : List AO := [⟨some 26, .mv (.t 7),none⟩,⟨some 27, .mv (.t 8),none⟩,⟨some 28, .bin .lss (.t 26) (.t 27),none⟩]
def r7 : List AO := [⟨some 29, .mv (.t 7),none⟩,⟨some 30, .mv (.t 8),none⟩,⟨some 31, .bin .add (.t 29) (.t 30),none⟩,⟨some 32, .bin .quo (.t 31) (.v (.int .i64 2)),none⟩,⟨some 9, .asg (.t 32),none⟩]
def r8 : List Ph := [.bag false [] [0, 9, 36, 37] [(0, ⟨some 33, .mv (.t 0),none⟩),(1, ⟨some 34, .mv (.t 9),none⟩),(2, ⟨some 35, .iadr 5 (.t 33) (.t 34),none⟩),(3, ⟨some 36, .load 5 true (.t 35),none⟩),(4, ⟨some 37, .load 5 true (.t 3),none⟩),(5, ⟨some 38, .call .deep (.v (.clo F.value_Cmp [] [])) [.t 36, .t 37],none⟩),(6, ⟨some 39, .bin .lss (.t 38) (.v (.int .i64 0)),none⟩)]]
def r9 : List AO := [⟨some 40, .mv (.t 9),none⟩,⟨some 41, .bin .add (.t 40) (.v (.int .i64 1)),none⟩,⟨some 7, .asg (.t 41),none⟩]
def r10 : List AO := [⟨some 42, .mv (.t 9),none⟩,⟨some 8, .asg (.t 42),none⟩]
def l1 : AC := .seq (.seq (.reg r6 [0, 3, 7, 8, 28]) (.cond (.t 28) (.skip) (.exit 1))) (.block 2 (.seq (.reg r7 [0, 3, 7, 8, 9]) (.seq (.dreg r8 [0, 3, 7, 8, 9, 39]) (.cond (.t 39) (.reg r9 [0, 3, 7, 8]) (.reg r10 [0, 3, 7, 8])))))
def r11 : List Ph := [.bag false [] [52, 53] [(0, ⟨some 43, .mv (.t 7),none⟩),(1, ⟨some 44, .mv (.t 7),none⟩),(2, ⟨some 45, .mv (.t 0),none⟩),(3, ⟨some 46, .len false (.t 45),none⟩),(4, ⟨some 47, .bin .lss (.t 44) (.t 46),none⟩),(5, ⟨some 48, .mv (.t 47),none⟩),(6, ⟨some 49, .mv (.t 0), some (48, true)⟩),(7, ⟨some 50, .mv (.t 7), some (48, true)⟩),(8, ⟨some 51, .iadr 5 (.t 49) (.t 50), some (48, true)⟩),(9, ⟨some 52, .load 5 true (.t 51), some (48, true)⟩),(10, ⟨some 53, .load 5 true (.t 3), some (48, true)⟩),(11, ⟨some 54, .call .deep (.v (.clo F.value_Same [] [])) [.t 52, .t 53], some (48, true)⟩),(12, ⟨some 55, .pick (.t 48) (.t 54) (.v (.bool false)),none⟩),(13, ⟨some 4, .asg (.t 43),none⟩),(14, ⟨some 5, .asg (.t 55),none⟩),(15, ⟨some 6, .asg (.v (.int .i64 0)),none⟩)]]
def body : AC := .seq (.reg r0 [0, 3]) (.seq (.block 0 (.seq (.reg r1 [0, 3, 10]) (.cond (.t 10) (.seq (.reg r2 [4, 5, 6]) (.ret)) (.seq (.reg r3 [0, 3, 20]) (.cond (.t 20) (.seq (.reg r4 [4, 5, 6]) (.ret)) (.skip)))))) (.seq (.reg r5 [0, 3, 7, 8]) (.seq (.block 1 (.loop [0, 3, 7, 8] l1)) (.seq (.dreg r11 [4, 5, 6]) (.ret)))))
def fn : AFun := ⟨[.val, .val], 56, [.tmp 4, .tmp 5, .tmp 6], [], body⟩
end order_Search
namespace order_Sort
def r0 : List AO := [⟨some 2, .asgo (.w [.own 5 []] false),none⟩,⟨some 3, .asg (.v (.int .i64 0)),none⟩]
def r1 : List AO := [⟨some 4, .mv (.t 0),none⟩,⟨some 5, .buildS 1 1 [.own 5 []] [(0, 1, .t 4)],none⟩,⟨some 6, .call .deep (.v (.clo F.order_formed [] [])) [.t 5],none⟩,⟨some 7, .un .not (.t 6),none⟩]
def r2 : List AO := [⟨some 2, .asgo (.w [.own 5 []] false),none⟩,⟨some 3, .asg (.v (.int .i64 1)),none⟩]
def r3 : List AO := [⟨some 8, .mv (.t 0),none⟩,⟨some 9, .call .deep (.v (.clo F.order_twins [] [])) [.t 8],none⟩,⟨some 10, .call .deep (.v (.clo F.order_sorted_Value [] [])) [.t 9, .v (.clo F.value_Cmp [] [])],none⟩,⟨some 2, .asgo (.t 10),none⟩,⟨some 3, .asg (.v (.int .i64 0)),none⟩]
def body : AC := .seq (.reg r0 [0]) (.seq (.seq (.reg r1 [0, 7]) (.cond (.t 7) (.seq (.reg r2 [2, 3]) (.ret)) (.skip))) (.seq (.reg r3 [2, 3]) (.ret)))
def fn : AFun := ⟨[.val], 11, [.tmp 2, .tmp 3], [2], body⟩
end order_Sort
namespace hallmarklaw07_OrderParts
def r0 : List AO := [⟨some 4, .asg (.v (.bool false)),none⟩]
def r1 : List AO := [⟨some 14, .call .deep (.v (.clo F.hallmarklaw07_OrderKnown [] [])) [],none⟩,⟨some 15, .un .not (.t 14),none⟩]
def r2 : List AO := [⟨some 4, .asg (.v (.bool false)),none⟩]
def r3 : List AO := [⟨some 16, .mv (.t 0),none⟩,⟨some 17, .call .deep (.v (.clo F.hallmarkref03_All [] [])) [.t 16],none⟩,⟨some 18, .un .not (.t 17),none⟩,⟨some 19, .mv (.t 18),none⟩,⟨some 20, .mv (.t 1), some (19, false)⟩,⟨some 21, .call .deep (.v (.clo F.hallmarkref03_All [] [])) [.t 20], some (19, false)⟩,⟨some 22, .un .not (.t 21), some (19, false)⟩,⟨some 23, .pick (.t 19) (.v (.bool true)) (.t 22),none⟩,⟨some 24, .mv (.t 23),none⟩,⟨some 25, .mv (.t 0), some (24, false)⟩,⟨some 26, .len false (.t 25), some (24, false)⟩,⟨some 27, .mv (.t 1), some (24, false)⟩,⟨some 28, .len false (.t 27), some (24, false)⟩,⟨some 29, .bin .neq (.t 26) (.t 28), some (24, false)⟩,⟨some 30, .pick (.t 24) (.v (.bool true)) (.t 29),none⟩]
def r4 : List AO := [⟨some 4, .asg (.v (.bool true)),none⟩]
def r5 : List AO := [⟨some 32, .mv (.t 0),none⟩,⟨some 33, .mv (.t 1),none⟩,⟨some 34, .call .deep (.v (.clo F.order_Group [] [])) [.t 32, .t 33],none⟩,⟨some 31, .mv (.t 34),none⟩,⟨some 35, .ext (.t 31) 0,none⟩,⟨some 36, .ext (.t 31) 1,none⟩,⟨some 5, .asgs (.t 35),none⟩,⟨some 6, .asg (.t 36),none⟩]
def r6 : List AO := [⟨some 38, .mv (.t 0),none⟩,⟨some 39, .mv (.t 1),none⟩,⟨some 40, .call .deep (.v (.clo F.order_SortBy [] [])) [.t 38, .t 39],none⟩,⟨some 37, .mv (.t 40),none⟩,⟨some 41, .ext (.t 37) 0,none⟩,⟨some 42, .ext (.t 37) 1,none⟩,⟨some 7, .asgs (.t 41),none⟩,⟨some 8, .asg (.t 42),none⟩]
def r7 : List AO := [⟨some 44, .mv (.t 0),none⟩,⟨some 45, .mv (.t 1),none⟩,⟨some 46, .call .deep (.v (.clo F.order_Unique [] [])) [.t 44, .t 45],none⟩,⟨some 43, .mv (.t 46),none⟩,⟨some 47, .ext (.t 43) 0,none⟩,⟨some 48, .ext (.t 43) 1,none⟩,⟨some 9, .asgs (.t 47),none⟩,⟨some 10, .asg (.t 48),none⟩]
def r8 : List AO := [⟨some 49, .mv (.t 6),none⟩,⟨some 50, .bin .neq (.t 49) (.v (.int .i64 0)),none⟩,⟨some 51, .mv (.t 50),none⟩,⟨some 52, .mv (.t 8), some (51, false)⟩,⟨some 53, .bin .neq (.t 52) (.v (.int .i64 0)), some (51, false)⟩,⟨some 54, .pick (.t 51) (.v (.bool true)) (.t 53),none⟩,⟨some 55, .mv (.t 54),none⟩,⟨some 56, .mv (.t 10), some (55, false)⟩,⟨some 57, .bin .neq (.t 56) (.v (.int .i64 0)), some (55, false)⟩,⟨some 58, .pick (.t 55) (.v (.bool true)) (.t 57),none⟩,⟨some 59, .mv (.t 58),none⟩,⟨some 60, .mv (.t 9), some (59, false)⟩,⟨some 61, .len false (.t 60), some (59, false)⟩,⟨some 62, .mv (.t 5), some (59, false)⟩,⟨some 63, .len false (.t 62), some (59, false)⟩,⟨some 64, .bin .neq (.t 61) (.t 63), some (59, false)⟩,⟨some 65, .pick (.t 59) (.v (.bool true)) (.t 64),none⟩]
def r9 : List AO := [⟨some 4, .asg (.v (.bool false)),none⟩]
def r10 : List AO := [⟨some 11, .asgo (.w [.own 5 []] false),none⟩]
def r11 : List AO := [⟨some 12, .asg (.v (.int .i64 0)),none⟩]
def r12 : List AO := [⟨some 66, .mv (.t 12),none⟩,⟨some 67, .mv (.t 5),none⟩,⟨some 68, .len false (.t 67),none⟩,⟨some 69, .bin .lss (.t 66) (.t 68),none⟩]
def r14 : List Ph := [.bag false [] [9, 84, 88] [(0, ⟨some 72, .mv (.t 5),none⟩),(1, ⟨some 73, .mv (.t 12),none⟩),(2, ⟨some 74, .iadr 1 (.t 72) (.t 73),none⟩),(3, ⟨some 75, .load 1 false (.t 74),none⟩),(4, ⟨some 76, .len false (.t 75),none⟩),(5, ⟨some 77, .bin .eql (.t 76) (.v (.int .i64 0)),none⟩),(6, ⟨some 78, .mv (.t 77),none⟩),(7, ⟨some 79, .mv (.t 5), some (78, false)⟩),(8, ⟨some 80, .mv (.t 12), some (78, false)⟩),(9, ⟨some 81, .iadr 1 (.t 79) (.t 80), some (78, false)⟩),(10, ⟨some 82, .load 1 false (.t 81), some (78, false)⟩),(11, ⟨some 83, .iadr 5 (.t 82) (.v (.int .i64 0)), some (78, false)⟩),(12, ⟨some 84, .load 5 true (.t 83), some (78, false)⟩),(13, ⟨some 85, .mv (.t 9), some (78, false)⟩),(14, ⟨some 86, .mv (.t 12), some (78, false)⟩),(15, ⟨some 87, .iadr 5 (.t 85) (.t 86), some (78, false)⟩),(16, ⟨some 88, .load 5 true (.t 87), some (78, false)⟩),(17, ⟨some 89, .call .deep (.v (.clo F.hallmarkkit_SameValue [] [])) [.t 84, .t 88], some (78, false)⟩),(18, ⟨some 90, .un .not (.t 89), some (78, false)⟩),(19, ⟨some 91, .pick (.t 78) (.v (.bool true)) (.t 90),none⟩)]]
def r15 : List AO := [⟨some 4, .asg (.v (.bool false)),none⟩]
def r16 : List AO := [⟨some 13, .asg (.v (.int .i64 0)),none⟩]
def r17 : List AO := [⟨some 92, .mv (.t 13),none⟩,⟨some 93, .mv (.t 5),none⟩,⟨some 94, .mv (.t 12),none⟩,⟨some 95, .iadr 1 (.t 93) (.t 94),none⟩,⟨some 96, .load 1 false (.t 95),none⟩,⟨some 97, .len false (.t 96),none⟩,⟨some 98, .bin .lss (.t 92) (.t 97),none⟩]
def r19 : List AO := [⟨some 101, .mvt 11,none⟩,⟨some 102, .mv (.t 5),none⟩,⟨some 103, .mv (.t 12),none⟩,⟨some 104, .iadr 1 (.t 102) (.t 103),none⟩,⟨some 105, .load 1 false (.t 104),none⟩,⟨some 106, .mv (.t 13),none⟩,⟨some 107, .iadr 5 (.t 105) (.t 106),none⟩,⟨some 108, .load 5 true (.t 107),none⟩,⟨some 109, .buildS 1 5 [.av (.int .i64 0), .av (.str []), .av (.str []), .own 5 [], .own 1 []] [(0, 5, .t 108)],none⟩,⟨some 110, .append 88 5 (.t 101) (.t 109),none⟩,⟨some 11, .asgo (.t 110),none⟩]
def r18 : List AO := [⟨some 99, .mv (.t 13),none⟩,⟨some 100, .bin .add (.t 99) (.v (.int .i64 1)),none⟩,⟨some 13, .asg (.t 100),none⟩]
def l2 : AC := .seq (.seq (.reg r17 [5, 7, 9, 11, 12, 13, 98]) (.cond (.t 98) (.skip) (.exit 2))) (.seq (.block 3 (.reg r19 [5, 7, 9, 11, 12, 13])) (.reg r18 [5, 7, 9, 11, 12, 13]))
def r13 : List AO := [⟨some 70, .mv (.t 12),none⟩,⟨some 71, .bin .add (.t 70) (.v (.int .i64 1)),none⟩,⟨some 12, .asg (.t 71),none⟩]
def l1 : AC := .seq (.seq (.reg r12 [5, 7, 9, 11, 12, 69]) (.cond (.t 69) (.skip) (.exit 0))) (.seq (.block 1 (.seq (.seq (.dreg r14 [5, 7, 9, 11, 12, 91]) (.cond (.t 91) (.seq (.reg r15 [4]) (.ret)) (.skip))) (.seq (.reg r16 [5, 7, 9, 11, 12, 13]) (.block 2 (.loop [5, 7, 9, 11, 12, 13] l2))))) (.reg r13 [5, 7, 9, 11, 12]))
def r20 : List AO := [⟨some 111, .mvt 11,none⟩,⟨some 112, .mv (.t 7),none⟩,⟨some 113, .call .deep (.v (.clo F.hallmarkkit_SameValues [] [])) [.t 111, .t 112],none⟩,⟨some 4, .asg (.t 113),none⟩]
def body : AC := .seq (.reg r0 [0, 1]) (.seq (.seq (.reg r1 [0, 1, 15]) (.cond (.t 15) (.seq (.reg r2 [4]) (.ret)) (.skip))) (.seq (.seq (.reg r3 [0, 1, 30]) (.cond (.t 30) (.seq (.reg r4 [4]) (.ret)) (.skip))) (.seq (.reg r5 [0, 1, 5, 6]) (.seq (.reg r6 [0, 1, 5, 6, 7, 8]) (.seq (.reg r7 [5, 6, 7, 8, 9, 10]) (.seq (.seq (.reg r8 [5, 7, 9, 65]) (.cond (.t 65) (.seq (.reg r9 [4]) (.ret)) (.skip))) (.seq (.reg r10 [5, 7, 9, 11]) (.seq (.seq (.reg r11 [5, 7, 9, 11, 12]) (.block 0 (.loop [5, 7, 9, 11, 12] l1))) (.seq (.reg r20 [4]) (.ret))))))))))
def fn : AFun := ⟨[.val, .val], 114, [.tmp 4], [11], body⟩
end hallmarklaw07_OrderParts
namespace order_pairs
def r0 : List AO := [⟨some 4, .asgo (.w [.own 10 []] false),none⟩,⟨some 5, .asg (.v (.int .i64 0)),none⟩]
def r1 : List AO := [⟨some 8, .mv (.t 0),none⟩,⟨some 9, .mv (.t 1),none⟩,⟨some 10, .buildS 2 1 [.own 5 []] [(0, 1, .t 8), (1, 1, .t 9)],none⟩,⟨some 11, .call .deep (.v (.clo F.order_formed [] [])) [.t 10],none⟩,⟨some 12, .un .not (.t 11),none⟩]
def r2 : List AO := [⟨some 4, .asgo (.w [.own 10 []] false),none⟩,⟨some 5, .asg (.v (.int .i64 1)),none⟩]
def r3 : List AO := [⟨some 13, .mv (.t 0),none⟩,⟨some 14, .len false (.t 13),none⟩,⟨some 15, .mv (.t 1),none⟩,⟨some 16, .len false (.t 15),none⟩,⟨some 17, .bin .neq (.t 14) (.t 16),none⟩]
def r4 : List AO := [⟨some 4, .asgo (.w [.own 10 []] false),none⟩,⟨some 5, .asg (.v (.int .i64 2)),none⟩]
def r5 : List AO := [⟨some 6, .asgo (.w [.own 10 []] false),none⟩]
def r6 : List AO := [⟨some 18, .mv (.t 0),none⟩,⟨some 19, .len false (.t 18),none⟩,⟨some 20, .mv (.v (.int .i64 0)),none⟩]
def r7 : List AO := [⟨some 21, .bin .lss (.t 20) (.t 19),none⟩]
def r8 : List AO := [⟨some 22, .mv (.t 20),none⟩,⟨some 7, .asg (.t 22),none⟩]
def r9 : List Ph := [.bag false [] [0, 1, 27, 28, 32, 33] [(0, ⟨some 23, .mvr 6,none⟩),(1, ⟨some 24, .mv (.t 0),none⟩),(2, ⟨some 25, .mv (.t 7),none⟩),(3, ⟨some 26, .iadr 5 (.t 24) (.t 25),none⟩),(4, ⟨some 27, .load 5 true (.t 26),none⟩),(5, ⟨some 28, .call .deep (.v (.clo F.value_Twin [] [])) [.t 27],none⟩),(6, ⟨some 29, .mv (.t 1),none⟩),(7, ⟨some 30, .mv (.t 7),none⟩),(8, ⟨some 31, .iadr 5 (.t 29) (.t 30),none⟩),(9, ⟨some 32, .load 5 true (.t 31),none⟩),(10, ⟨some 33, .build [.av (.int .i64 0), .av (.str []), .av (.str []), .own 5 [], .own 1 [], .av (.int .i64 0), .av (.str []), .av (.str []), .own 5 [], .own 1 []] [(0, 5, .t 28), (5, 5, .t 32)],none⟩),(11, ⟨some 34, .buildS 1 10 [.av (.int .i64 0), .av (.str []), .av (.str []), .own 5 [], .own 1 [], .av (.int .i64 0), .av (.str []), .av (.str []), .own 5 [], .own 1 []] [(0, 10, .t 33)],none⟩)],.one 12 ⟨some 35, .append 176 10 (.t 23) (.t 34),none⟩,.one 13 ⟨some 6, .asgo (.t 35),none⟩]
def r10 : List AO := [⟨some 36, .bin .add (.t 20) (.v (.int .i64 1)),none⟩,⟨some 20, .mv (.t 36),none⟩]
def l1 : AC := .seq (.reg r7 [0, 1, 6, 19, 20, 21]) (.seq (.cond (.t 21) (.skip) (.exit 0)) (.seq (.block 1 (.seq (.reg r8 [0, 1, 6, 7, 19, 20]) (.dreg r9 [0, 1, 6, 19, 20]))) (.reg r10 [0, 1, 6, 19, 20])))
def r11 : List AO := [⟨some 37, .mvt 6,none⟩,⟨some 38, .call .deep (.v (.clo F.order_sorted_order_pair [] [])) [.t 37, .v (.clo F.order_pairs_S1 [] [])],none⟩,⟨some 4, .asgo (.t 38),none⟩,⟨some 5, .asg (.v (.int .i64 0)),none⟩]
def body : AC := .seq (.reg r0 [0, 1]) (.seq (.seq (.reg r1 [0, 1, 12]) (.cond (.t 12) (.seq (.reg r2 [4, 5]) (.ret)) (.skip))) (.seq (.seq (.reg r3 [0, 1, 17]) (.cond (.t 17) (.seq (.reg r4 [4, 5]) (.ret)) (.skip))) (.seq (.reg r5 [0, 1, 6]) (.seq (.seq (.reg r6 [0, 1, 6, 19, 20]) (.block 0 (.loop [0, 1, 6, 19, 20] l1))) (.seq (.reg r11 [4, 5]) (.ret))))))
def fn : AFun := ⟨[.val, .val], 39, [.tmp 4, .tmp 5], [4, 6], body⟩
end order_pairs
namespace order_formed
def r0 : List AO := [⟨some 2, .asg (.v (.bool false)),none⟩]
def r1 : List AO := [⟨some 7, .mv (.t 0),none⟩,⟨some 8, .len false (.t 7),none⟩,⟨some 9, .mv (.v (.int .i64 0)),none⟩]
def r2 : List AO := [⟨some 10, .bin .lss (.t 9) (.t 8),none⟩]
def r3 : List AO := [⟨some 11, .iadr 1 (.t 7) (.t 9),none⟩,⟨some 12, .load 1 false (.t 11),none⟩,⟨some 4, .asgo (.t 12),none⟩]
def r4 : List AO := [⟨some 13, .mvt 4,none⟩,⟨some 14, .len false (.t 13),none⟩,⟨some 15, .mv (.v (.int .i64 0)),none⟩]
def r5 : List AO := [⟨some 16, .bin .lss (.t 15) (.t 14),none⟩]
def r6 : List AO := [⟨some 17, .iadr 5 (.t 13) (.t 15),none⟩,⟨some 18, .load 5 true (.t 17),none⟩,⟨some 6, .alloc [.av (.int .i64 0), .av (.str []), .av (.str []), .own 5 [], .own 1 []],none⟩,⟨none, .store 5 (.t 6) (.t 18),none⟩]
def r7 : List AO := [⟨some 19, .take 5 true (.t 6),none⟩,⟨some 20, .call .deep (.v (.clo F.value_Formed [] [])) [.t 19],none⟩,⟨some 21, .un .not (.t 20),none⟩]
def r8 : List AO := [⟨some 2, .asg (.v (.bool false)),none⟩]
def r9 : List AO := [⟨some 22, .bin .add (.t 15) (.v (.int .i64 1)),none⟩,⟨some 15, .mv (.t 22),none⟩]
def l2 : AC := .seq (.reg r5 [7, 8, 9, 13, 14, 15, 16]) (.seq (.cond (.t 16) (.skip) (.exit 2)) (.seq (.block 3 (.seq (.reg r6 [6, 7, 8, 9, 13, 14, 15]) (.seq (.reg r7 [7, 8, 9, 13, 14, 15, 21]) (.cond (.t 21) (.seq (.reg r8 [2]) (.ret)) (.skip))))) (.reg r9 [7, 8, 9, 13, 14, 15])))
def r10 : List AO := [⟨some 23, .bin .add (.t 9) (.v (.int .i64 1)),none⟩,⟨some 9, .mv (.t 23),none⟩]
def l1 : AC := .seq (.reg r2 [7, 8, 9, 10]) (.seq (.cond (.t 10) (.skip) (.exit 0)) (.seq (.block 1 (.seq (.reg r3 [4, 7, 8, 9]) (.seq (.reg r4 [7, 8, 9, 13, 14, 15]) (.block 2 (.loop [7, 8, 9, 13, 14, 15] l2))))) (.reg r10 [7, 8, 9])))
def r11 : List AO := [⟨some 2, .asg (.v (.bool true)),none⟩]
def body : AC := .seq (.reg r0 [0]) (.seq (.seq (.reg r1 [7, 8, 9]) (.block 0 (.loop [7, 8, 9] l1))) (.seq (.reg r11 [2]) (.ret)))
def fn : AFun := ⟨[.val], 24, [.tmp 2], [4], body⟩
end order_formed
namespace order_rises
def r0 : List AO := [⟨some 2, .asg (.v (.bool false)),none⟩]
def r1 : List AO := [⟨some 3, .asg (.v (.int .i64 1)),none⟩]
def r2 : List AO := [⟨some 4, .mv (.t 3),none⟩,⟨some 5, .mv (.t 0),none⟩,⟨some 6, .len false (.t 5),none⟩,⟨some 7, .bin .lss (.t 4) (.t 6),none⟩]
def r4 : List Ph := [.bag false [] [13, 18] [(0, ⟨some 10, .mv (.t 0),none⟩),(1, ⟨some 11, .mv (.t 3),none⟩),(2, ⟨some 12, .iadr 5 (.t 10) (.t 11),none⟩),(3, ⟨some 13, .load 5 true (.t 12),none⟩),(4, ⟨some 14, .mv (.t 0),none⟩),(5, ⟨some 15, .mv (.t 3),none⟩),(6, ⟨some 16, .bin .sub (.t 15) (.v (.int .i64 1)),none⟩),(7, ⟨some 17, .iadr 5 (.t 14) (.t 16),none⟩),(8, ⟨some 18, .load 5 true (.t 17),none⟩),(9, ⟨some 19, .call .deep (.v (.clo F.value_Cmp [] [])) [.t 13, .t 18],none⟩),(10, ⟨some 20, .bin .lss (.t 19) (.v (.int .i64 0)),none⟩)]]
def r5 : List AO := [⟨some 2, .asg (.v (.bool false)),none⟩]
def r3 : List AO := [⟨some 8, .mv (.t 3),none⟩,⟨some 9, .bin .add (.t 8) (.v (.int .i64 1)),none⟩,⟨some 3, .asg (.t 9),none⟩]
def l1 : AC := .seq (.seq (.reg r2 [0, 3, 7]) (.cond (.t 7) (.skip) (.exit 0))) (.seq (.block 1 (.seq (.dreg r4 [0, 3, 20]) (.cond (.t 20) (.seq (.reg r5 [2]) (.ret)) (.skip)))) (.reg r3 [0, 3]))
def r6 : List AO := [⟨some 2, .asg (.v (.bool true)),none⟩]
def body : AC := .seq (.reg r0 [0]) (.seq (.seq (.reg r1 [0, 3]) (.block 0 (.loop [0, 3] l1))) (.seq (.reg r6 [2]) (.ret)))
def fn : AFun := ⟨[.val], 21, [.tmp 2], [], body⟩
end order_rises
namespace order_twins
def r0 : List AO := [⟨some 2, .asgo (.w [.own 5 []] false),none⟩]
def r1 : List AO := [⟨some 3, .asgo (.w [.own 5 []] false),none⟩]
def r2 : List AO := [⟨some 6, .mv (.t 0),none⟩,⟨some 7, .len false (.t 6),none⟩,⟨some 8, .mv (.v (.int .i64 0)),none⟩]
def r3 : List AO := [⟨some 9, .bin .lss (.t 8) (.t 7),none⟩]
def r4 : List AO := [⟨some 10, .iadr 5 (.t 6) (.t 8),none⟩,⟨some 11, .load 5 true (.t 10),none⟩,⟨some 5, .alloc [.av (.int .i64 0), .av (.str []), .av (.str []), .own 5 [], .own 1 []],none⟩,⟨none, .store 5 (.t 5) (.t 11),none⟩]
def r5 : List AO := [⟨some 12, .mvt 3,none⟩,⟨some 13, .take 5 true (.t 5),none⟩,⟨some 14, .call .deep (.v (.clo F.value_Twin [] [])) [.t 13],none⟩,⟨some 15, .buildS 1 5 [.av (.int .i64 0), .av (.str []), .av (.str []), .own 5 [], .own 1 []] [(0, 5, .t 14)],none⟩,⟨some 16, .append 88 5 (.t 12) (.t 15),none⟩,⟨some 3, .asgo (.t 16),none⟩]
def r6 : List AO := [⟨some 17, .bin .add (.t 8) (.v (.int .i64 1)),none⟩,⟨some 8, .mv (.t 17),none⟩]
def l1 : AC := .seq (.reg r3 [3, 6, 7, 8, 9]) (.seq (.cond (.t 9) (.skip) (.exit 0)) (.seq (.block 1 (.seq (.reg r4 [3, 5, 6, 7, 8]) (.reg r5 [3, 6, 7, 8]))) (.reg r6 [3, 6, 7, 8])))
def r7 : List AO := [⟨some 18, .mvt 3,none⟩,⟨some 2, .asgo (.t 18),none⟩]
def body : AC := .seq (.reg r0 [0]) (.seq (.reg r1 [0, 3]) (.seq (.seq (.reg r2 [3, 6, 7, 8]) (.block 0 (.loop [3, 6, 7, 8] l1))) (.seq (.reg r7 [2]) (.ret))))
def fn : AFun := ⟨[.val], 19, [.tmp 2], [2, 3], body⟩
end order_twins
namespace order_merged_Value
def r0 : List AO := [⟨some 6, .asgo (.w [.own 5 []] false),none⟩]
def r1 : List AO := [⟨some 8, .mvr 0,none⟩,⟨some 9, .len false (.t 8),none⟩,⟨some 10, .mvr 1,none⟩,⟨some 11, .len false (.t 10),none⟩,⟨some 12, .bin .add (.t 9) (.t 11),none⟩,⟨some 13, .mks [.av (.int .i64 0), .av (.str []), .av (.str []), .own 5 [], .own 1 []] (.v (.int .i64 0)) (.t 12),none⟩,⟨some 7, .asgo (.t 13),none⟩]
def r2 : List AO := [⟨some 14, .mvr 0,none⟩,⟨some 15, .len false (.t 14),none⟩,⟨some 16, .bin .gtr (.t 15) (.v (.int .i64 0)),none⟩,⟨some 17, .mv (.t 16),none⟩,⟨some 18, .mvr 1, some (17, true)⟩,⟨some 19, .len false (.t 18), some (17, true)⟩,⟨some 20, .bin .gtr (.t 19) (.v (.int .i64 0)), some (17, true)⟩,⟨some 21, .pick (.t 17) (.t 20) (.v (.bool false)),none⟩]
def r3 : List Ph := [.bag false [] [2, 25, 28] [(0, ⟨some 22, .mv (.t 2),none⟩),(1, ⟨some 23, .mvr 1,none⟩),(2, ⟨some 24, .iadr 5 (.t 23) (.v (.int .i64 0)),none⟩),(3, ⟨some 25, .load 5 true (.t 24),none⟩),(4, ⟨some 26, .mvr 0,none⟩),(5, ⟨some 27, .iadr 5 (.t 26) (.v (.int .i64 0)),none⟩),(6, ⟨some 28, .load 5 true (.t 27),none⟩),(7, ⟨some 29, .call .deep (.t 22) [.t 25, .t 28],none⟩),(8, ⟨some 30, .bin .lss (.t 29) (.v (.int .i64 0)),none⟩)]]
def r4 : List Ph := [.bag false [6, 7] [34, 37] [(0, ⟨some 31, .mvr 7,none⟩),(1, ⟨some 32, .mvr 1,none⟩),(2, ⟨some 33, .iadr 5 (.t 32) (.v (.int .i64 0)),none⟩),(3, ⟨some 34, .load 5 true (.t 33),none⟩),(4, ⟨some 35, .buildS 1 5 [.av (.int .i64 0), .av (.str []), .av (.str []), .own 5 [], .own 1 []] [(0, 5, .t 34)],none⟩),(6, ⟨some 37, .mvr 1,none⟩),(7, ⟨some 38, .slc false 5 (.t 37) (some (.v (.int .i64 1))) none,none⟩)],.one 5 ⟨some 36, .append 88 5 (.t 31) (.t 35),none⟩,.one 8 ⟨some 7, .asgo (.t 36),none⟩,.one 9 ⟨some 1, .asgo (.t 38),none⟩]
def r5 : List Ph := [.bag false [6, 7] [42, 45] [(0, ⟨some 39, .mvr 7,none⟩),(1, ⟨some 40, .mvr 0,none⟩),(2, ⟨some 41, .iadr 5 (.t 40) (.v (.int .i64 0)),none⟩),(3, ⟨some 42, .load 5 true (.t 41),none⟩),(4, ⟨some 43, .buildS 1 5 [.av (.int .i64 0), .av (.str []), .av (.str []), .own 5 [], .own 1 []] [(0, 5, .t 42)],none⟩),(6, ⟨some 45, .mvr 0,none⟩),(7, ⟨some 46, .slc false 5 (.t 45) (some (.v (.int .i64 1))) none,none⟩)],.one 5 ⟨some 44, .append 88 5 (.t 39) (.t 43),none⟩,.one 8 ⟨some 7, .asgo (.t 44),none⟩,.one 9 ⟨some 0, .asgo (.t 46),none⟩]
def l1 : AC := .seq (.seq (.reg r2 [0, 1, 2, 7, 21]) (.cond (.t 21) (.skip) (.exit 0))) (.block 1 (.seq (.dreg r3 [0, 1, 2, 7, 30]) (.cond (.t 30) (.dreg r4 [0, 1, 2, 7]) (.dreg r5 [0, 1, 2, 7]))))
def r6 : List AO := [⟨some 47, .mvt 7,none⟩,⟨some 48, .mvt 0,none⟩,⟨some 49, .append 88 5 (.t 47) (.t 48),none⟩,⟨some 50, .mvt 1,none⟩,⟨some 51, .append 88 5 (.t 49) (.t 50),none⟩,⟨some 6, .asgo (.t 51),none⟩]
def body : AC := .seq (.reg r0 [0, 1, 2]) (.seq (.reg r1 [0, 1, 2, 7]) (.seq (.block 0 (.loop [0, 1, 2, 7] l1)) (.seq (.reg r6 [6]) (.ret))))
def fn : AFun := ⟨[.val, .val, .val], 52, [.tmp 6], [0, 1, 6, 7], body⟩
end order_merged_Value
namespace order_best
def r0 : List AO := [⟨some 4, .asg (.v (.int .i64 0)),none⟩,⟨some 5, .asg (.v (.int .i64 0)),none⟩]
def r1 : List AO := [⟨some 9, .mv (.t 0),none⟩,⟨some 10, .buildS 1 1 [.own 5 []] [(0, 1, .t 9)],none⟩,⟨some 11, .call .deep (.v (.clo F.order_formed [] [])) [.t 10],none⟩,⟨some 12, .un .not (.t 11),none⟩]
def r2 : List AO := [⟨some 4, .asg (.v (.int .i64 0)),none⟩,⟨some 5, .asg (.v (.int .i64 1)),none⟩]
def r3 : List AO := [⟨some 6, .asg (.v (.int .i64 (-1))),none⟩]
def r4 : List AO := [⟨some 13, .mv (.t 0),none⟩,⟨some 14, .len false (.t 13),none⟩,⟨some 15, .mv (.v (.int .i64 0)),none⟩]
def r5 : List AO := [⟨some 16, .bin .lss (.t 15) (.t 14),none⟩]
def r6 : List AO := [⟨some 17, .mv (.t 15),none⟩,⟨some 18, .iadr 5 (.t 13) (.t 15),none⟩,⟨some 19, .load 5 true (.t 18),none⟩,⟨some 8, .alloc [.av (.int .i64 0), .av (.str []), .av (.str []), .own 5 [], .own 1 []],none⟩,⟨some 7, .asg (.t 17),none⟩,⟨none, .store 5 (.t 8) (.t 19),none⟩]
def r7 : List Ph := [.bag false [] [0, 1, 24, 28] [(0, ⟨some 20, .mv (.t 6),none⟩),(1, ⟨some 21, .bin .lss (.t 20) (.v (.int .i64 0)),none⟩),(2, ⟨some 22, .mv (.t 21),none⟩),(3, ⟨some 23, .mv (.t 1), some (22, false)⟩),(4, ⟨some 24, .load 5 true (.t 8), some (22, false)⟩),(5, ⟨some 25, .mv (.t 0), some (22, false)⟩),(6, ⟨some 26, .mv (.t 6), some (22, false)⟩),(7, ⟨some 27, .iadr 5 (.t 25) (.t 26), some (22, false)⟩),(8, ⟨some 28, .load 5 true (.t 27), some (22, false)⟩),(9, ⟨some 29, .call .deep (.t 23) [.t 24, .t 28], some (22, false)⟩),(10, ⟨some 30, .pick (.t 22) (.v (.bool true)) (.t 29),none⟩)]]
def r8 : List AO := [⟨some 31, .mv (.t 7),none⟩,⟨some 6, .asg (.t 31),none⟩]
def r9 : List AO := [⟨some 32, .bin .add (.t 15) (.v (.int .i64 1)),none⟩,⟨some 15, .mv (.t 32),none⟩]
def l1 : AC := .seq (.reg r5 [0, 1, 6, 13, 14, 15, 16]) (.seq (.cond (.t 16) (.skip) (.exit 0)) (.seq (.block 1 (.seq (.reg r6 [0, 1, 6, 7, 8, 13, 14, 15]) (.seq (.dreg r7 [0, 1, 6, 7, 13, 14, 15, 30]) (.cond (.t 30) (.reg r8 [0, 1, 6, 13, 14, 15]) (.skip))))) (.reg r9 [0, 1, 6, 13, 14, 15])))
def r10 : List AO := [⟨some 33, .mv (.t 6),none⟩,⟨some 4, .asg (.t 33),none⟩,⟨some 5, .asg (.v (.int .i64 0)),none⟩]
def body : AC := .seq (.reg r0 [0, 1]) (.seq (.seq (.reg r1 [0, 1, 12]) (.cond (.t 12) (.seq (.reg r2 [4, 5]) (.ret)) (.skip))) (.seq (.reg r3 [0, 1, 6]) (.seq (.seq (.reg r4 [0, 1, 6, 13, 14, 15]) (.block 0 (.loop [0, 1, 6, 13, 14, 15] l1))) (.seq (.reg r10 [4, 5]) (.ret)))))
def fn : AFun := ⟨[.val, .val], 34, [.tmp 4, .tmp 5], [], body⟩
end order_best
namespace order_Least_S1
def r0 : List AO := [⟨some 2, .box (.t 0),none⟩,⟨some 3, .box (.t 1),none⟩,⟨some 4, .asg (.v (.bool false)),none⟩]
def r1 : List AO := [⟨some 5, .take 5 true (.t 2),none⟩,⟨some 6, .take 5 true (.t 3),none⟩,⟨some 7, .call .deep (.v (.clo F.value_Cmp [] [])) [.t 5, .t 6],none⟩,⟨some 8, .bin .lss (.t 7) (.v (.int .i64 0)),none⟩,⟨some 4, .asg (.t 8),none⟩]
def body : AC := .seq (.reg r0 [2, 3]) (.seq (.reg r1 [4]) (.ret))
def fn : AFun := ⟨[.val, .val], 9, [.tmp 4], [], body⟩
end order_Least_S1
namespace order_Greatest_S1
def r0 : List AO := [⟨some 2, .box (.t 0),none⟩,⟨some 3, .box (.t 1),none⟩,⟨some 4, .asg (.v (.bool false)),none⟩]
def r1 : List AO := [⟨some 5, .take 5 true (.t 2),none⟩,⟨some 6, .take 5 true (.t 3),none⟩,⟨some 7, .call .deep (.v (.clo F.value_Cmp [] [])) [.t 5, .t 6],none⟩,⟨some 8, .bin .geq (.t 7) (.v (.int .i64 0)),none⟩,⟨some 4, .asg (.t 8),none⟩]
def body : AC := .seq (.reg r0 [2, 3]) (.seq (.reg r1 [4]) (.ret))
def fn : AFun := ⟨[.val, .val], 9, [.tmp 4], [], body⟩
end order_Greatest_S1
namespace order_sorted_Value
def r0 : List AO := [⟨some 4, .asgo (.w [.own 5 []] false),none⟩]
def r1 : List AO := [⟨some 6, .mv (.t 0),none⟩,⟨some 7, .len false (.t 6),none⟩,⟨some 8, .bin .lss (.t 7) (.v (.int .i64 2)),none⟩]
def r2 : List AO := [⟨some 9, .mv (.t 0),none⟩,⟨some 10, .append 88 5 (.w [.own 5 []] false) (.t 9),none⟩,⟨some 4, .asgo (.t 10),none⟩]
def r3 : List AO := [⟨some 11, .mv (.t 0),none⟩,⟨some 12, .len false (.t 11),none⟩,⟨some 13, .bin .quo (.t 12) (.v (.int .i64 2)),none⟩,⟨some 5, .asg (.t 13),none⟩]
def r4 : List Ph := [.bag false [] [14, 16, 18, 19, 21, 23] [(0, ⟨some 14, .mv (.t 0),none⟩),(1, ⟨some 15, .mv (.t 5),none⟩),(2, ⟨some 16, .slc false 5 (.t 14) none (some (.t 15)),none⟩),(3, ⟨some 17, .mv (.t 1),none⟩),(4, ⟨some 18, .call .deep (.v (.clo F.order_sorted_Value [] [])) [.t 16, .t 17],none⟩),(5, ⟨some 19, .mv (.t 0),none⟩),(6, ⟨some 20, .mv (.t 5),none⟩),(7, ⟨some 21, .slc false 5 (.t 19) (some (.t 20)) none,none⟩),(8, ⟨some 22, .mv (.t 1),none⟩),(9, ⟨some 23, .call .deep (.v (.clo F.order_sorted_Value [] [])) [.t 21, .t 22],none⟩),(10, ⟨some 24, .mv (.t 1),none⟩),(11, ⟨some 25, .call .deep (.v (.clo F.order_merged_Value [] [])) [.t 18, .t 23, .t 24],none⟩)],.one 12 ⟨some 4, .asgo (.t 25),none⟩]
def body : AC := .seq (.reg r0 [0, 1]) (.seq (.seq (.reg r1 [0, 1, 8]) (.cond (.t 8) (.seq (.reg r2 [4]) (.ret)) (.skip))) (.seq (.reg r3 [0, 1, 5]) (.seq (.dreg r4 [4]) (.ret))))
def fn : AFun := ⟨[.val, .val], 26, [.tmp 4], [4], body⟩
end order_sorted_Value
namespace order_sorted_order_pair
def r0 : List AO := [⟨some 4, .asgo (.w [.own 10 []] false),none⟩]
def r1 : List AO := [⟨some 6, .mv (.t 0),none⟩,⟨some 7, .len false (.t 6),none⟩,⟨some 8, .bin .lss (.t 7) (.v (.int .i64 2)),none⟩]
def r2 : List AO := [⟨some 9, .mv (.t 0),none⟩,⟨some 10, .append 176 10 (.w [.own 10 []] false) (.t 9),none⟩,⟨some 4, .asgo (.t 10),none⟩]
def r3 : List AO := [⟨some 11, .mv (.t 0),none⟩,⟨some 12, .len false (.t 11),none⟩,⟨some 13, .bin .quo (.t 12) (.v (.int .i64 2)),none⟩,⟨some 5, .asg (.t 13),none⟩]
def r4 : List Ph := [.bag false [] [14, 16, 18, 19, 21, 23] [(0, ⟨some 14, .mv (.t 0),none⟩),(1, ⟨some 15, .mv (.t 5),none⟩),(2, ⟨some 16, .slc false 10 (.t 14) none (some (.t 15)),none⟩),(3, ⟨some 17, .mv (.t 1),none⟩),(4, ⟨some 18, .call .deep (.v (.clo F.order_sorted_order_pair [] [])) [.t 16, .t 17],none⟩),(5, ⟨some 19, .mv (.t 0),none⟩),(6, ⟨some 20, .mv (.t 5),none⟩),(7, ⟨some 21, .slc false 10 (.t 19) (some (.t 20)) none,none⟩),(8, ⟨some 22, .mv (.t 1),none⟩),(9, ⟨some 23, .call .deep (.v (.clo F.order_sorted_order_pair [] [])) [.t 21, .t 22],none⟩),(10, ⟨some 24, .mv (.t 1),none⟩),(11, ⟨some 25, .call .deep (.v (.clo F.order_merged_order_pair [] [])) [.t 18, .t 23, .t 24],none⟩)],.one 12 ⟨some 4, .asgo (.t 25),none⟩]
def body : AC := .seq (.reg r0 [0, 1]) (.seq (.seq (.reg r1 [0, 1, 8]) (.cond (.t 8) (.seq (.reg r2 [4]) (.ret)) (.skip))) (.seq (.reg r3 [0, 1, 5]) (.seq (.dreg r4 [4]) (.ret))))
def fn : AFun := ⟨[.val, .val], 26, [.tmp 4], [4], body⟩
end order_sorted_order_pair
namespace order_pairs_S1
def r0 : List AO := [⟨some 2, .box (.t 0),none⟩,⟨some 3, .box (.t 1),none⟩,⟨some 4, .asg (.v (.int .i64 0)),none⟩]
def r1 : List AO := [⟨some 5, .fadr 5 (.t 2),none⟩,⟨some 6, .take 5 true (.t 5),none⟩,⟨some 7, .fadr 5 (.t 3),none⟩,⟨some 8, .take 5 true (.t 7),none⟩,⟨some 9, .call .deep (.v (.clo F.value_Cmp [] [])) [.t 6, .t 8],none⟩,⟨some 4, .asg (.t 9),none⟩]
def body : AC := .seq (.reg r0 [2, 3]) (.seq (.reg r1 [4]) (.ret))
def fn : AFun := ⟨[.val, .val], 10, [.tmp 4], [], body⟩
end order_pairs_S1
namespace order_merged_order_pair
def r0 : List AO := [⟨some 6, .asgo (.w [.own 10 []] false),none⟩]
def r1 : List AO := [⟨some 8, .mvr 0,none⟩,⟨some 9, .len false (.t 8),none⟩,⟨some 10, .mvr 1,none⟩,⟨some 11, .len false (.t 10),none⟩,⟨some 12, .bin .add (.t 9) (.t 11),none⟩,⟨some 13, .mks [.av (.int .i64 0), .av (.str []), .av (.str []), .own 5 [], .own 1 [], .av (.int .i64 0), .av (.str []), .av (.str []), .own 5 [], .own 1 []] (.v (.int .i64 0)) (.t 12),none⟩,⟨some 7, .asgo (.t 13),none⟩]
def r2 : List AO := [⟨some 14, .mvr 0,none⟩,⟨some 15, .len false (.t 14),none⟩,⟨some 16, .bin .gtr (.t 15) (.v (.int .i64 0)),none⟩,⟨some 17, .mv (.t 16),none⟩,⟨some 18, .mvr 1, some (17, true)⟩,⟨some 19, .len false (.t 18), some (17, true)⟩,⟨some 20, .bin .gtr (.t 19) (.v (.int .i64 0)), some (17, true)⟩,⟨some 21, .pick (.t 17) (.t 20) (.v (.bool false)),none⟩]
def r3 : List Ph := [.bag false [] [2, 25, 28] [(0, ⟨some 22, .mv (.t 2),none⟩),(1, ⟨some 23, .mvr 1,none⟩),(2, ⟨some 24, .iadr 10 (.t 23) (.v (.int .i64 0)),none⟩),(3, ⟨some 25, .load 10 true (.t 24),none⟩),(4, ⟨some 26, .mvr 0,none⟩),(5, ⟨some 27, .iadr 10 (.t 26) (.v (.int .i64 0)),none⟩),(6, ⟨some 28, .load 10 true (.t 27),none⟩),(7, ⟨some 29, .call .deep (.t 22) [.t 25, .t 28],none⟩),(8, ⟨some 30, .bin .lss (.t 29) (.v (.int .i64 0)),none⟩)]]
def r4 : List Ph := [.bag false [6, 7] [34, 37] [(0, ⟨some 31, .mvr 7,none⟩),(1, ⟨some 32, .mvr 1,none⟩),(2, ⟨some 33, .iadr 10 (.t 32) (.v (.int .i64 0)),none⟩),(3, ⟨some 34, .load 10 true (.t 33),none⟩),(4, ⟨some 35, .buildS 1 10 [.av (.int .i64 0), .av (.str []), .av (.str []), .own 5 [], .own 1 [], .av (.int .i64 0), .av (.str []), .av (.str []), .own 5 [], .own 1 []] [(0, 10, .t 34)],none⟩),(6, ⟨some 37, .mvr 1,none⟩),(7, ⟨some 38, .slc false 10 (.t 37) (some (.v (.int .i64 1))) none,none⟩)],.one 5 ⟨some 36, .append 176 10 (.t 31) (.t 35),none⟩,.one 8 ⟨some 7, .asgo (.t 36),none⟩,.one 9 ⟨some 1, .asgo (.t 38),none⟩]
def r5 : List Ph := [.bag false [6, 7] [42, 45] [(0, ⟨some 39, .mvr 7,none⟩),(1, ⟨some 40, .mvr 0,none⟩),(2, ⟨some 41, .iadr 10 (.t 40) (.v (.int .i64 0)),none⟩),(3, ⟨some 42, .load 10 true (.t 41),none⟩),(4, ⟨some 43, .buildS 1 10 [.av (.int .i64 0), .av (.str []), .av (.str []), .own 5 [], .own 1 [], .av (.int .i64 0), .av (.str []), .av (.str []), .own 5 [], .own 1 []] [(0, 10, .t 42)],none⟩),(6, ⟨some 45, .mvr 0,none⟩),(7, ⟨some 46, .slc false 10 (.t 45) (some (.v (.int .i64 1))) none,none⟩)],.one 5 ⟨some 44, .append 176 10 (.t 39) (.t 43),none⟩,.one 8 ⟨some 7, .asgo (.t 44),none⟩,.one 9 ⟨some 0, .asgo (.t 46),none⟩]
def l1 : AC := .seq (.seq (.reg r2 [0, 1, 2, 7, 21]) (.cond (.t 21) (.skip) (.exit 0))) (.block 1 (.seq (.dreg r3 [0, 1, 2, 7, 30]) (.cond (.t 30) (.dreg r4 [0, 1, 2, 7]) (.dreg r5 [0, 1, 2, 7]))))
def r6 : List AO := [⟨some 47, .mvt 7,none⟩,⟨some 48, .mvt 0,none⟩,⟨some 49, .append 176 10 (.t 47) (.t 48),none⟩,⟨some 50, .mvt 1,none⟩,⟨some 51, .append 176 10 (.t 49) (.t 50),none⟩,⟨some 6, .asgo (.t 51),none⟩]
def body : AC := .seq (.reg r0 [0, 1, 2]) (.seq (.reg r1 [0, 1, 2, 7]) (.seq (.block 0 (.loop [0, 1, 2, 7] l1)) (.seq (.reg r6 [6]) (.ret))))
def fn : AFun := ⟨[.val, .val, .val], 52, [.tmp 6], [0, 1, 6, 7], body⟩
end order_merged_order_pair
namespace slices_Clone_Lstring_string
def r0 : List AO := [⟨some 2, .asgo (.w [.own 1 []] false),none⟩]
def r1 : List AO := [⟨some 3, .mv (.t 0),none⟩,⟨some 4, .isnil .sl false (.t 3),none⟩]
def r2 : List AO := [⟨some 2, .asgo (.w [.own 1 []] false),none⟩]
def r3 : List AO := [⟨some 5, .buildS 0 1 [.av (.str [])] [],none⟩,⟨some 6, .mv (.t 0),none⟩,⟨some 7, .append 16 1 (.t 5) (.t 6),none⟩,⟨some 2, .asgo (.t 7),none⟩]
def body : AC := .seq (.reg r0 [0]) (.seq (.seq (.reg r1 [0, 4]) (.cond (.t 4) (.seq (.reg r2 [2]) (.ret)) (.skip))) (.seq (.reg r3 [2]) (.ret)))
def fn : AFun := ⟨[.val], 8, [.tmp 2], [2], body⟩
end slices_Clone_Lstring_string
namespace slices_Clone_LValue_Value
def r0 : List AO := [⟨some 2, .asgo (.w [.own 5 []] false),none⟩]
def r1 : List AO := [⟨some 3, .mv (.t 0),none⟩,⟨some 4, .isnil .sl false (.t 3),none⟩]
def r2 : List AO := [⟨some 2, .asgo (.w [.own 5 []] false),none⟩]
def r3 : List AO := [⟨some 5, .buildS 0 5 [.av (.int .i64 0), .av (.str []), .av (.str []), .own 5 [], .own 1 []] [],none⟩,⟨some 6, .mv (.t 0),none⟩,⟨some 7, .append 88 5 (.t 5) (.t 6),none⟩,⟨some 2, .asgo (.t 7),none⟩]
def body : AC := .seq (.reg r0 [0]) (.seq (.seq (.reg r1 [0, 4]) (.cond (.t 4) (.seq (.reg r2 [2]) (.ret)) (.skip))) (.seq (.reg r3 [2]) (.ret)))
def fn : AFun := ⟨[.val], 8, [.tmp 2], [2], body⟩
end slices_Clone_LValue_Value
end Hm
