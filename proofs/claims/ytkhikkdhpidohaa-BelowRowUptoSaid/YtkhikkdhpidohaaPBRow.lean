/- The cleaned code of the functions that the law reaches, printed by program. Conditions: none (definitions). -/
import Derived.Test.YtkhikkdhpidohaaHA
set_option maxRecDepth 100000
namespace Hm
namespace F
abbrev hallmarkref03_Formed : Nat := 7
abbrev hallmarkref03_Number : Nat := 17
abbrev hallmarkref03_UTF : Nat := 18
abbrev hallmarkref03_Rise : Nat := 19
abbrev hallmarkref03_All : Nat := 20
abbrev hallmarkref03_width : Nat := 42
abbrev tens_Cmp : Nat := 46
abbrev hallmarkref03_trail : Nat := 53
abbrev tens_Formed : Nat := 54
abbrev tens_split : Nat := 55
abbrev tens_size : Nat := 56
abbrev cmp_isNaN_string : Nat := 60
abbrev slices_ContainsFunc_Lstring_string : Nat := 89
abbrev slices_Index_Lstring_string : Nat := 91
abbrev slices_BinarySearch_Lstring_string : Nat := 92
abbrev hallmarkref03_Get : Nat := 97
abbrev hallmarkref03_Numbers : Nat := 107
abbrev hallmarkref03_Texts : Nat := 108
abbrev slices_IndexFunc_Lstring_string : Nat := 116
abbrev cmp_Less_string : Nat := 117
abbrev slices_isNaN_string : Nat := 118
abbrev hallmarkkit_FitType : Nat := 136
abbrev hallmarkref09_Formed : Nat := 137
abbrev hallmarkref09_Height : Nat := 138
abbrev hallmarkkit_typeParts : Nat := 142
abbrev hallmarkref09_Bare : Nat := 143
abbrev hallmarkref09_Spans : Nat := 144
abbrev hallmarkref09_arrays : Nat := 145
abbrev hallmarkref09_objects : Nat := 146
abbrev hallmarkref09_higher : Nat := 147
abbrev hallmarkref09_bound : Nat := 159
abbrev hallmarkref09_Never : Nat := 160
abbrev hallmarkref09_object : Nat := 161
abbrev hallmarkref09_In : Nat := 177
abbrev shape_OfKinds : Nat := 184
abbrev shape_Kinds : Nat := 186
abbrev shape_Every : Nat := 191
abbrev hallmarkref09_InSpan : Nat := 195
abbrev hallmarkref09_inArr : Nat := 196
abbrev hallmarkref09_InObj : Nat := 197
abbrev shape_OfKinds_S1 : Nat := 204
abbrev hallmarkref09_Has : Nat := 215
abbrev below_Span : Nat := 318
abbrev hallmarklaw12_bounds : Nat := 319
abbrev hallmarkref12_Span : Nat := 320
abbrev hallmarklaw12_lives : Nat := 322
abbrev hallmarklaw12_formed : Nat := 323
abbrev below_Below : Nat := 324
abbrev below_Apart : Nat := 325
abbrev hallmarklaw12_BelowRow : Nat := 329
abbrev hallmarkref12_Single : Nat := 330
abbrev below_hollow : Nat := 331
abbrev below_worth : Nat := 332
abbrev hallmarkref12_Hollow : Nat := 333
abbrev below_never : Nat := 334
abbrev below_side_words : Nat := 335
abbrev below_side_nums : Nat := 336
abbrev below_side_texts : Nat := 337
abbrev below_side_arrays : Nat := 338
abbrev below_side_objects : Nat := 339
abbrev below_laid : Nat := 340
abbrev below_side_apartWords : Nat := 341
abbrev below_side_apartNums : Nat := 342
abbrev below_side_apartTexts : Nat := 343
abbrev below_side_apartArrays : Nat := 344
abbrev below_side_apartObjects : Nat := 345
abbrev below_side_texts_S1 : Nat := 350
abbrev below_side_objects_S1 : Nat := 351
abbrev slices_ContainsFunc_LObj_Obj : Nat := 352
abbrev below_lower : Nat := 353
abbrev below_upper : Nat := 354
abbrev below_side_apartTexts_S1 : Nat := 355
abbrev below_unlike : Nat := 356
abbrev slices_Contains_Lstring_string : Nat := 361
abbrev slices_IndexFunc_LObj_Obj : Nat := 362
abbrev below_lies : Nat := 363
abbrev below_names : Nat := 364
abbrev below_field : Nat := 365
abbrev below_unlike_S1 : Nat := 366
abbrev slices_Clone_Lstring_string : Nat := 43
end F
namespace hallmarkref03_Formed
def r0 : List AO := [⟨some 1, .box (.t 0),none⟩,⟨some 2, .asg (.v (.bool false)),none⟩]
def r1 : List AO := [⟨some 3, .fadr 0 (.t 1),none⟩,⟨some 4, .load 1 false (.t 3),none⟩,⟨some 5, .bin .lss (.t 4) (.v (.int .i64 0)),none⟩,⟨some 6, .mv (.t 5),none⟩,⟨some 7, .fadr 0 (.t 1), some (6, false)⟩,⟨some 8, .load 1 false (.t 7), some (6, false)⟩,⟨some 9, .bin .gtr (.t 8) (.v (.int .i64 6)), some (6, false)⟩,⟨some 10, .pick (.t 6) (.v (.bool true)) (.t 9),none⟩]
def r2 : List AO := [⟨some 2, .asg (.v (.bool false)),none⟩]
def r3 : List AO := [⟨some 11, .fadr 0 (.t 1),none⟩,⟨some 12, .load 1 false (.t 11),none⟩,⟨some 13, .bin .eql (.t 12) (.v (.int .i64 3)),none⟩,⟨some 14, .mv (.t 13),none⟩,⟨some 15, .fadr 1 (.t 1), some (14, true)⟩,⟨some 16, .load 1 false (.t 15), some (14, true)⟩,⟨some 17, .call .deep (.v (.clo F.hallmarkref03_Number [] [])) [.t 16], some (14, true)⟩,⟨some 18, .un .not (.t 17), some (14, true)⟩,⟨some 19, .pick (.t 14) (.t 18) (.v (.bool false)),none⟩,⟨some 20, .mv (.t 19),none⟩,⟨some 21, .fadr 0 (.t 1), some (20, false)⟩,⟨some 22, .load 1 false (.t 21), some (20, false)⟩,⟨some 23, .bin .neq (.t 22) (.v (.int .i64 3)), some (20, false)⟩,⟨some 24, .mv (.t 23), some (20, false)⟩,⟨some 25, .fadr 1 (.t 1), some (24, true)⟩,⟨some 26, .load 1 false (.t 25), some (24, true)⟩,⟨some 27, .bin .neq (.t 26) (.v (.str [])), some (24, true)⟩,⟨some 28, .pick (.t 24) (.t 27) (.v (.bool false)), some (20, false)⟩,⟨some 29, .pick (.t 20) (.v (.bool true)) (.t 28),none⟩]
def r4 : List AO := [⟨some 2, .asg (.v (.bool false)),none⟩]
def r5 : List AO := [⟨some 30, .fadr 0 (.t 1),none⟩,⟨some 31, .load 1 false (.t 30),none⟩,⟨some 32, .bin .eql (.t 31) (.v (.int .i64 4)),none⟩,⟨some 33, .mv (.t 32),none⟩,⟨some 34, .fadr 2 (.t 1), some (33, true)⟩,⟨some 35, .load 1 false (.t 34), some (33, true)⟩,⟨some 36, .call .deep (.v (.clo F.hallmarkref03_UTF [] [])) [.t 35], some (33, true)⟩,⟨some 37, .un .not (.t 36), some (33, true)⟩,⟨some 38, .pick (.t 33) (.t 37) (.v (.bool false)),none⟩,⟨some 39, .mv (.t 38),none⟩,⟨some 40, .fadr 0 (.t 1), some (39, false)⟩,⟨some 41, .load 1 false (.t 40), some (39, false)⟩,⟨some 42, .bin .neq (.t 41) (.v (.int .i64 4)), some (39, false)⟩,⟨some 43, .mv (.t 42), some (39, false)⟩,⟨some 44, .fadr 2 (.t 1), some (43, true)⟩,⟨some 45, .load 1 false (.t 44), some (43, true)⟩,⟨some 46, .bin .neq (.t 45) (.v (.str [])), some (43, true)⟩,⟨some 47, .pick (.t 43) (.t 46) (.v (.bool false)), some (39, false)⟩,⟨some 48, .pick (.t 39) (.v (.bool true)) (.t 47),none⟩]
def r6 : List AO := [⟨some 2, .asg (.v (.bool false)),none⟩]
def r7 : List AO := [⟨some 49, .fadr 0 (.t 1),none⟩,⟨some 50, .load 1 false (.t 49),none⟩,⟨some 51, .bin .lss (.t 50) (.v (.int .i64 5)),none⟩,⟨some 52, .mv (.t 51),none⟩,⟨some 53, .fadr 3 (.t 1), some (52, true)⟩,⟨some 54, .load 1 false (.t 53), some (52, true)⟩,⟨some 55, .len false (.t 54), some (52, true)⟩,⟨some 56, .bin .gtr (.t 55) (.v (.int .i64 0)), some (52, true)⟩,⟨some 57, .pick (.t 52) (.t 56) (.v (.bool false)),none⟩,⟨some 58, .mv (.t 57),none⟩,⟨some 59, .fadr 0 (.t 1), some (58, false)⟩,⟨some 60, .load 1 false (.t 59), some (58, false)⟩,⟨some 61, .bin .lss (.t 60) (.v (.int .i64 6)), some (58, false)⟩,⟨some 62, .mv (.t 61), some (58, false)⟩,⟨some 63, .fadr 4 (.t 1), some (62, true)⟩,⟨some 64, .load 1 false (.t 63), some (62, true)⟩,⟨some 65, .len false (.t 64), some (62, true)⟩,⟨some 66, .bin .gtr (.t 65) (.v (.int .i64 0)), some (62, true)⟩,⟨some 67, .pick (.t 62) (.t 66) (.v (.bool false)), some (58, false)⟩,⟨some 68, .pick (.t 58) (.v (.bool true)) (.t 67),none⟩]
def r8 : List AO := [⟨some 2, .asg (.v (.bool false)),none⟩]
def r9 : List AO := [⟨some 69, .fadr 0 (.t 1),none⟩,⟨some 70, .load 1 false (.t 69),none⟩,⟨some 71, .bin .eql (.t 70) (.v (.int .i64 6)),none⟩,⟨some 72, .mv (.t 71),none⟩,⟨some 73, .fadr 4 (.t 1), some (72, true)⟩,⟨some 74, .load 1 false (.t 73), some (72, true)⟩,⟨some 75, .len false (.t 74), some (72, true)⟩,⟨some 76, .fadr 3 (.t 1), some (72, true)⟩,⟨some 77, .load 1 false (.t 76), some (72, true)⟩,⟨some 78, .len false (.t 77), some (72, true)⟩,⟨some 79, .bin .neq (.t 75) (.t 78), some (72, true)⟩,⟨some 80, .mv (.t 79), some (72, true)⟩,⟨some 81, .fadr 4 (.t 1), some (80, false)⟩,⟨some 82, .load 1 false (.t 81), some (80, false)⟩,⟨some 83, .call .deep (.v (.clo F.hallmarkref03_Rise [] [])) [.t 82], some (80, false)⟩,⟨some 84, .un .not (.t 83), some (80, false)⟩,⟨some 85, .pick (.t 80) (.v (.bool true)) (.t 84), some (72, true)⟩,⟨some 86, .pick (.t 72) (.t 85) (.v (.bool false)),none⟩]
def r10 : List AO := [⟨some 2, .asg (.v (.bool false)),none⟩]
def r11 : List AO := [⟨some 87, .fadr 3 (.t 1),none⟩,⟨some 88, .take 1 false (.t 87),none⟩,⟨some 89, .call .deep (.v (.clo F.hallmarkref03_All [] [])) [.t 88],none⟩,⟨some 2, .asg (.t 89),none⟩]
def body : AC := .seq (.reg r0 [1]) (.seq (.seq (.reg r1 [1, 10]) (.cond (.t 10) (.seq (.reg r2 [2]) (.ret)) (.skip))) (.seq (.seq (.reg r3 [1, 29]) (.cond (.t 29) (.seq (.reg r4 [2]) (.ret)) (.skip))) (.seq (.seq (.reg r5 [1, 48]) (.cond (.t 48) (.seq (.reg r6 [2]) (.ret)) (.skip))) (.seq (.seq (.reg r7 [1, 68]) (.cond (.t 68) (.seq (.reg r8 [2]) (.ret)) (.skip))) (.seq (.seq (.reg r9 [1, 86]) (.cond (.t 86) (.seq (.reg r10 [2]) (.ret)) (.skip))) (.seq (.reg r11 [2]) (.ret)))))))
def fn : AFun := ⟨[.val], 90, [.tmp 2], [], body⟩
end hallmarkref03_Formed
namespace hallmarkref03_Number
def r0 : List AO := [⟨some 2, .asg (.v (.bool false)),none⟩]
def r1 : List AO := [⟨some 5, .mv (.t 0),none⟩,⟨some 3, .asg (.t 5),none⟩]
def r2 : List AO := [⟨some 6, .mv (.t 0),none⟩,⟨some 7, .len true (.t 6),none⟩,⟨some 8, .bin .gtr (.t 7) (.v (.int .i64 0)),none⟩,⟨some 9, .mv (.t 8),none⟩,⟨some 10, .mv (.t 0), some (9, true)⟩,⟨some 11, .idxS (.t 10) (.v (.int .i64 0)), some (9, true)⟩,⟨some 12, .bin .eql (.t 11) (.v (.int .u8 45)), some (9, true)⟩,⟨some 13, .pick (.t 9) (.t 12) (.v (.bool false)),none⟩]
def r3 : List AO := [⟨some 14, .mv (.t 0),none⟩,⟨some 15, .slc true 1 (.t 14) (some (.v (.int .i64 1))) none,none⟩,⟨some 3, .asg (.t 15),none⟩]
def r4 : List AO := [⟨some 4, .asg (.v (.int .i64 0)),none⟩]
def r5 : List AO := [⟨some 16, .mv (.t 4),none⟩,⟨some 17, .mv (.t 3),none⟩,⟨some 18, .len true (.t 17),none⟩,⟨some 19, .bin .lss (.t 16) (.t 18),none⟩]
def r7 : List AO := [⟨some 22, .mv (.t 3),none⟩,⟨some 23, .mv (.t 4),none⟩,⟨some 24, .idxS (.t 22) (.t 23),none⟩,⟨some 25, .bin .lss (.t 24) (.v (.int .u8 48)),none⟩,⟨some 26, .mv (.t 25),none⟩,⟨some 27, .mv (.t 3), some (26, false)⟩,⟨some 28, .mv (.t 4), some (26, false)⟩,⟨some 29, .idxS (.t 27) (.t 28), some (26, false)⟩,⟨some 30, .bin .gtr (.t 29) (.v (.int .u8 57)), some (26, false)⟩,⟨some 31, .pick (.t 26) (.v (.bool true)) (.t 30),none⟩]
def r8 : List AO := [⟨some 2, .asg (.v (.bool false)),none⟩]
def r6 : List AO := [⟨some 20, .mv (.t 4),none⟩,⟨some 21, .bin .add (.t 20) (.v (.int .i64 1)),none⟩,⟨some 4, .asg (.t 21),none⟩]
def l1 : AC := .seq (.seq (.reg r5 [0, 3, 4, 19]) (.cond (.t 19) (.skip) (.exit 0))) (.seq (.block 1 (.seq (.reg r7 [0, 3, 4, 31]) (.cond (.t 31) (.seq (.reg r8 [2]) (.ret)) (.skip)))) (.reg r6 [0, 3, 4]))
def r9 : List AO := [⟨some 32, .mv (.t 3),none⟩,⟨some 33, .len true (.t 32),none⟩,⟨some 34, .bin .eql (.t 33) (.v (.int .i64 0)),none⟩,⟨some 35, .mv (.t 34),none⟩,⟨some 36, .mv (.t 3), some (35, false)⟩,⟨some 37, .idxS (.t 36) (.v (.int .i64 0)), some (35, false)⟩,⟨some 38, .bin .eql (.t 37) (.v (.int .u8 48)), some (35, false)⟩,⟨some 39, .mv (.t 38), some (35, false)⟩,⟨some 40, .mv (.t 0), some (39, true)⟩,⟨some 41, .bin .neq (.t 40) (.v (.str [48])), some (39, true)⟩,⟨some 42, .pick (.t 39) (.t 41) (.v (.bool false)), some (35, false)⟩,⟨some 43, .pick (.t 35) (.v (.bool true)) (.t 42),none⟩]
def r10 : List AO := [⟨some 2, .asg (.v (.bool false)),none⟩]
def r11 : List AO := [⟨some 2, .asg (.v (.bool true)),none⟩]
def body : AC := .seq (.reg r0 [0]) (.seq (.reg r1 [0, 3]) (.seq (.seq (.reg r2 [0, 3, 13]) (.cond (.t 13) (.reg r3 [0, 3]) (.skip))) (.seq (.seq (.reg r4 [0, 3, 4]) (.block 0 (.loop [0, 3, 4] l1))) (.seq (.seq (.reg r9 [43]) (.cond (.t 43) (.seq (.reg r10 [2]) (.ret)) (.skip))) (.seq (.reg r11 [2]) (.ret))))))
def fn : AFun := ⟨[.val], 44, [.tmp 2], [], body⟩
end hallmarkref03_Number
namespace hallmarkref03_UTF
def r0 : List AO := [⟨some 2, .asg (.v (.bool false)),none⟩]
def r1 : List AO := [⟨some 3, .asg (.v (.int .i64 0)),none⟩]
def r2 : List AO := [⟨some 5, .mv (.t 3),none⟩,⟨some 6, .mv (.t 0),none⟩,⟨some 7, .len true (.t 6),none⟩,⟨some 8, .bin .lss (.t 5) (.t 7),none⟩]
def r3 : List AO := [⟨some 9, .mv (.t 0),none⟩,⟨some 10, .mv (.t 3),none⟩,⟨some 11, .call .deep (.v (.clo F.hallmarkref03_width [] [])) [.t 9, .t 10],none⟩,⟨some 4, .asg (.t 11),none⟩]
def r4 : List AO := [⟨some 12, .mv (.t 4),none⟩,⟨some 13, .bin .eql (.t 12) (.v (.int .i64 0)),none⟩]
def r5 : List AO := [⟨some 2, .asg (.v (.bool false)),none⟩]
def r6 : List AO := [⟨some 14, .mv (.t 3),none⟩,⟨some 15, .mv (.t 4),none⟩,⟨some 16, .bin .add (.t 14) (.t 15),none⟩,⟨some 3, .asg (.t 16),none⟩]
def l1 : AC := .seq (.seq (.reg r2 [0, 3, 8]) (.cond (.t 8) (.skip) (.exit 0))) (.block 1 (.seq (.reg r3 [0, 3, 4]) (.seq (.seq (.reg r4 [0, 3, 4, 13]) (.cond (.t 13) (.seq (.reg r5 [2]) (.ret)) (.skip))) (.reg r6 [0, 3]))))
def r7 : List AO := [⟨some 2, .asg (.v (.bool true)),none⟩]
def body : AC := .seq (.reg r0 [0]) (.seq (.seq (.reg r1 [0, 3]) (.block 0 (.loop [0, 3] l1))) (.seq (.reg r7 [2]) (.ret)))
def fn : AFun := ⟨[.val], 17, [.tmp 2], [], body⟩
end hallmarkref03_UTF
namespace hallmarkref03_Rise
def r0 : List AO := [⟨some 2, .asg (.v (.bool false)),none⟩]
def r1 : List AO := [⟨some 3, .asg (.v (.int .i64 0)),none⟩]
def r2 : List AO := [⟨some 4, .mv (.t 3),none⟩,⟨some 5, .mv (.t 0),none⟩,⟨some 6, .len false (.t 5),none⟩,⟨some 7, .bin .lss (.t 4) (.t 6),none⟩]
def r4 : List AO := [⟨some 10, .mv (.t 0),none⟩,⟨some 11, .mv (.t 3),none⟩,⟨some 12, .iadr 1 (.t 10) (.t 11),none⟩,⟨some 13, .load 1 false (.t 12),none⟩,⟨some 14, .call .deep (.v (.clo F.hallmarkref03_UTF [] [])) [.t 13],none⟩,⟨some 15, .un .not (.t 14),none⟩]
def r5 : List AO := [⟨some 2, .asg (.v (.bool false)),none⟩]
def r6 : List Ph := [.bag false [] [] [(0, ⟨some 16, .mv (.t 3),none⟩),(1, ⟨some 17, .bin .gtr (.t 16) (.v (.int .i64 0)),none⟩),(2, ⟨some 18, .mv (.t 17),none⟩),(3, ⟨some 19, .mv (.t 0), some (18, true)⟩),(4, ⟨some 20, .mv (.t 3), some (18, true)⟩),(5, ⟨some 21, .bin .sub (.t 20) (.v (.int .i64 1)), some (18, true)⟩),(6, ⟨some 22, .iadr 1 (.t 19) (.t 21), some (18, true)⟩),(7, ⟨some 23, .load 1 false (.t 22), some (18, true)⟩),(8, ⟨some 24, .mv (.t 0), some (18, true)⟩),(9, ⟨some 25, .mv (.t 3), some (18, true)⟩),(10, ⟨some 26, .iadr 1 (.t 24) (.t 25), some (18, true)⟩),(11, ⟨some 27, .load 1 false (.t 26), some (18, true)⟩),(12, ⟨some 28, .bin .geq (.t 23) (.t 27), some (18, true)⟩),(13, ⟨some 29, .pick (.t 18) (.t 28) (.v (.bool false)),none⟩)]]
def r7 : List AO := [⟨some 2, .asg (.v (.bool false)),none⟩]
def r3 : List AO := [⟨some 8, .mv (.t 3),none⟩,⟨some 9, .bin .add (.t 8) (.v (.int .i64 1)),none⟩,⟨some 3, .asg (.t 9),none⟩]
def l1 : AC := .seq (.seq (.reg r2 [0, 3, 7]) (.cond (.t 7) (.skip) (.exit 0))) (.seq (.block 1 (.seq (.seq (.reg r4 [0, 3, 15]) (.cond (.t 15) (.seq (.reg r5 [2]) (.ret)) (.skip))) (.seq (.dreg r6 [0, 3, 29]) (.cond (.t 29) (.seq (.reg r7 [2]) (.ret)) (.skip))))) (.reg r3 [0, 3]))
def r8 : List AO := [⟨some 2, .asg (.v (.bool true)),none⟩]
def body : AC := .seq (.reg r0 [0]) (.seq (.seq (.reg r1 [0, 3]) (.block 0 (.loop [0, 3] l1))) (.seq (.reg r8 [2]) (.ret)))
def fn : AFun := ⟨[.val], 30, [.tmp 2], [], body⟩
end hallmarkref03_Rise
namespace hallmarkref03_All
def r0 : List AO := [⟨some 2, .asg (.v (.bool false)),none⟩]
def r1 : List AO := [⟨some 3, .asg (.v (.int .i64 0)),none⟩]
def r2 : List AO := [⟨some 4, .mv (.t 3),none⟩,⟨some 5, .mv (.t 0),none⟩,⟨some 6, .len false (.t 5),none⟩,⟨some 7, .bin .lss (.t 4) (.t 6),none⟩]
def r4 : List AO := [⟨some 10, .mv (.t 0),none⟩,⟨some 11, .mv (.t 3),none⟩,⟨some 12, .iadr 5 (.t 10) (.t 11),none⟩,⟨some 13, .load 5 true (.t 12),none⟩,⟨some 14, .call .deep (.v (.clo F.hallmarkref03_Formed [] [])) [.t 13],none⟩,⟨some 15, .un .not (.t 14),none⟩]
def r5 : List AO := [⟨some 2, .asg (.v (.bool false)),none⟩]
def r3 : List AO := [⟨some 8, .mv (.t 3),none⟩,⟨some 9, .bin .add (.t 8) (.v (.int .i64 1)),none⟩,⟨some 3, .asg (.t 9),none⟩]
def l1 : AC := .seq (.seq (.reg r2 [0, 3, 7]) (.cond (.t 7) (.skip) (.exit 0))) (.seq (.block 1 (.seq (.reg r4 [0, 3, 15]) (.cond (.t 15) (.seq (.reg r5 [2]) (.ret)) (.skip)))) (.reg r3 [0, 3]))
def r6 : List AO := [⟨some 2, .asg (.v (.bool true)),none⟩]
def body : AC := .seq (.reg r0 [0]) (.seq (.seq (.reg r1 [0, 3]) (.block 0 (.loop [0, 3] l1))) (.seq (.reg r6 [2]) (.ret)))
def fn : AFun := ⟨[.val], 16, [.tmp 2], [], body⟩
end hallmarkref03_All
namespace hallmarkref03_width
def r0 : List AO := [⟨some 4, .asg (.v (.int .i64 0)),none⟩]
def r1 : List AO := [⟨some 8, .mv (.t 0),none⟩,⟨some 9, .mv (.t 1),none⟩,⟨some 10, .idxS (.t 8) (.t 9),none⟩,⟨some 5, .asg (.t 10),none⟩]
def r2 : List AO := [⟨some 11, .mv (.t 5),none⟩,⟨some 12, .bin .lss (.t 11) (.v (.int .u8 128)),none⟩]
def r3 : List AO := [⟨some 4, .asg (.v (.int .i64 1)),none⟩]
def r4 : List AO := [⟨some 13, .mv (.t 5),none⟩,⟨some 14, .bin .geq (.t 13) (.v (.int .u8 194)),none⟩,⟨some 15, .mv (.t 14),none⟩,⟨some 16, .mv (.t 5), some (15, true)⟩,⟨some 17, .bin .leq (.t 16) (.v (.int .u8 223)), some (15, true)⟩,⟨some 18, .pick (.t 15) (.t 17) (.v (.bool false)),none⟩,⟨some 19, .mv (.t 18),none⟩,⟨some 20, .mv (.t 0), some (19, true)⟩,⟨some 21, .mv (.t 1), some (19, true)⟩,⟨some 22, .bin .add (.t 21) (.v (.int .i64 1)), some (19, true)⟩,⟨some 23, .call .deep (.v (.clo F.hallmarkref03_trail [] [])) [.t 20, .t 22, .v (.int .i64 1), .v (.int .u8 128), .v (.int .u8 191)], some (19, true)⟩,⟨some 24, .pick (.t 19) (.t 23) (.v (.bool false)),none⟩]
def r5 : List AO := [⟨some 4, .asg (.v (.int .i64 2)),none⟩]
def r6 : List AO := [⟨some 6, .asg (.v (.int .u8 128)),none⟩]
def r7 : List AO := [⟨some 7, .asg (.v (.int .u8 191)),none⟩]
def r8 : List AO := [⟨some 25, .mv (.t 5),none⟩,⟨some 26, .bin .eql (.t 25) (.v (.int .u8 224)),none⟩]
def r9 : List AO := [⟨some 6, .asg (.v (.int .u8 160)),none⟩]
def r10 : List AO := [⟨some 27, .mv (.t 5),none⟩,⟨some 28, .bin .eql (.t 27) (.v (.int .u8 237)),none⟩]
def r11 : List AO := [⟨some 7, .asg (.v (.int .u8 159)),none⟩]
def r12 : List AO := [⟨some 29, .mv (.t 5),none⟩,⟨some 30, .bin .eql (.t 29) (.v (.int .u8 240)),none⟩]
def r13 : List AO := [⟨some 6, .asg (.v (.int .u8 144)),none⟩]
def r14 : List AO := [⟨some 31, .mv (.t 5),none⟩,⟨some 32, .bin .eql (.t 31) (.v (.int .u8 244)),none⟩]
def r15 : List AO := [⟨some 7, .asg (.v (.int .u8 143)),none⟩]
def r16 : List AO := [⟨some 33, .mv (.t 5),none⟩,⟨some 34, .bin .geq (.t 33) (.v (.int .u8 224)),none⟩,⟨some 35, .mv (.t 34),none⟩,⟨some 36, .mv (.t 5), some (35, true)⟩,⟨some 37, .bin .leq (.t 36) (.v (.int .u8 239)), some (35, true)⟩,⟨some 38, .pick (.t 35) (.t 37) (.v (.bool false)),none⟩,⟨some 39, .mv (.t 38),none⟩,⟨some 40, .mv (.t 0), some (39, true)⟩,⟨some 41, .mv (.t 1), some (39, true)⟩,⟨some 42, .bin .add (.t 41) (.v (.int .i64 1)), some (39, true)⟩,⟨some 43, .mv (.t 6), some (39, true)⟩,⟨some 44, .mv (.t 7), some (39, true)⟩,⟨some 45, .call .deep (.v (.clo F.hallmarkref03_trail [] [])) [.t 40, .t 42, .v (.int .i64 2), .t 43, .t 44], some (39, true)⟩,⟨some 46, .pick (.t 39) (.t 45) (.v (.bool false)),none⟩]
def r17 : List AO := [⟨some 4, .asg (.v (.int .i64 3)),none⟩]
def r18 : List AO := [⟨some 47, .mv (.t 5),none⟩,⟨some 48, .bin .geq (.t 47) (.v (.int .u8 240)),none⟩,⟨some 49, .mv (.t 48),none⟩,⟨some 50, .mv (.t 5), some (49, true)⟩,⟨some 51, .bin .leq (.t 50) (.v (.int .u8 244)), some (49, true)⟩,⟨some 52, .pick (.t 49) (.t 51) (.v (.bool false)),none⟩,⟨some 53, .mv (.t 52),none⟩,⟨some 54, .mv (.t 0), some (53, true)⟩,⟨some 55, .mv (.t 1), some (53, true)⟩,⟨some 56, .bin .add (.t 55) (.v (.int .i64 1)), some (53, true)⟩,⟨some 57, .mv (.t 6), some (53, true)⟩,⟨some 58, .mv (.t 7), some (53, true)⟩,⟨some 59, .call .deep (.v (.clo F.hallmarkref03_trail [] [])) [.t 54, .t 56, .v (.int .i64 3), .t 57, .t 58], some (53, true)⟩,⟨some 60, .pick (.t 53) (.t 59) (.v (.bool false)),none⟩]
def r19 : List AO := [⟨some 4, .asg (.v (.int .i64 4)),none⟩]
def r20 : List AO := [⟨some 4, .asg (.v (.int .i64 0)),none⟩]
def body : AC := .seq (.reg r0 [0, 1]) (.seq (.reg r1 [0, 1, 5]) (.seq (.seq (.reg r2 [0, 1, 5, 12]) (.cond (.t 12) (.seq (.reg r3 [4]) (.ret)) (.skip))) (.seq (.seq (.reg r4 [0, 1, 5, 24]) (.cond (.t 24) (.seq (.reg r5 [4]) (.ret)) (.skip))) (.seq (.reg r6 [0, 1, 5, 6]) (.seq (.reg r7 [0, 1, 5, 6, 7]) (.seq (.seq (.reg r8 [0, 1, 5, 6, 7, 26]) (.cond (.t 26) (.reg r9 [0, 1, 5, 6, 7]) (.skip))) (.seq (.seq (.reg r10 [0, 1, 5, 6, 7, 28]) (.cond (.t 28) (.reg r11 [0, 1, 5, 6, 7]) (.skip))) (.seq (.seq (.reg r12 [0, 1, 5, 6, 7, 30]) (.cond (.t 30) (.reg r13 [0, 1, 5, 6, 7]) (.skip))) (.seq (.seq (.reg r14 [0, 1, 5, 6, 7, 32]) (.cond (.t 32) (.reg r15 [0, 1, 5, 6, 7]) (.skip))) (.seq (.seq (.reg r16 [0, 1, 5, 6, 7, 46]) (.cond (.t 46) (.seq (.reg r17 [4]) (.ret)) (.skip))) (.seq (.seq (.reg r18 [60]) (.cond (.t 60) (.seq (.reg r19 [4]) (.ret)) (.skip))) (.seq (.reg r20 [4]) (.ret)))))))))))))
def fn : AFun := ⟨[.val, .val], 61, [.tmp 4], [], body⟩
end hallmarkref03_width
namespace tens_Cmp
def r0 : List AO := [⟨some 4, .asg (.v (.int .i64 0)),none⟩,⟨some 5, .asg (.v (.int .i64 0)),none⟩]
def r1 : List AO := [⟨some 10, .mv (.t 0),none⟩,⟨some 11, .call .deep (.v (.clo F.tens_Formed [] [])) [.t 10],none⟩,⟨some 12, .un .not (.t 11),none⟩,⟨some 13, .mv (.t 12),none⟩,⟨some 14, .mv (.t 1), some (13, false)⟩,⟨some 15, .call .deep (.v (.clo F.tens_Formed [] [])) [.t 14], some (13, false)⟩,⟨some 16, .un .not (.t 15), some (13, false)⟩,⟨some 17, .pick (.t 13) (.v (.bool true)) (.t 16),none⟩]
def r2 : List AO := [⟨some 4, .asg (.v (.int .i64 0)),none⟩,⟨some 5, .asg (.v (.int .i64 1)),none⟩]
def r3 : List AO := [⟨some 19, .mv (.t 0),none⟩,⟨some 20, .call .deep (.v (.clo F.tens_split [] [])) [.t 19],none⟩,⟨some 18, .mv (.t 20),none⟩,⟨some 21, .ext (.t 18) 0,none⟩,⟨some 22, .ext (.t 18) 1,none⟩,⟨some 6, .asg (.t 21),none⟩,⟨some 7, .asg (.t 22),none⟩]
def r4 : List AO := [⟨some 24, .mv (.t 1),none⟩,⟨some 25, .call .deep (.v (.clo F.tens_split [] [])) [.t 24],none⟩,⟨some 23, .mv (.t 25),none⟩,⟨some 26, .ext (.t 23) 0,none⟩,⟨some 27, .ext (.t 23) 1,none⟩,⟨some 8, .asg (.t 26),none⟩,⟨some 9, .asg (.t 27),none⟩]
def r5 : List AO := [⟨some 29, .mv (.t 6),none⟩,⟨some 30, .mv (.t 29),none⟩,⟨some 31, .mv (.t 8), some (30, true)⟩,⟨some 32, .pick (.t 30) (.t 31) (.v (.bool false)),none⟩,⟨some 28, .asg (.t 32),none⟩]
def r6 : List AO := [⟨some 33, .mv (.t 9),none⟩,⟨some 34, .mv (.t 7),none⟩,⟨some 35, .call .deep (.v (.clo F.tens_size [] [])) [.t 33, .t 34],none⟩,⟨some 4, .asg (.t 35),none⟩,⟨some 5, .asg (.v (.int .i64 0)),none⟩]
def r7 : List AO := [⟨some 37, .mv (.t 6),none⟩,⟨some 36, .asg (.t 37),none⟩]
def r8 : List AO := [⟨some 4, .asg (.v (.int .i64 (-1))),none⟩,⟨some 5, .asg (.v (.int .i64 0)),none⟩]
def r9 : List AO := [⟨some 39, .mv (.t 8),none⟩,⟨some 38, .asg (.t 39),none⟩]
def r10 : List AO := [⟨some 4, .asg (.v (.int .i64 1)),none⟩,⟨some 5, .asg (.v (.int .i64 0)),none⟩]
def r11 : List AO := [⟨some 40, .mv (.t 7),none⟩,⟨some 41, .mv (.t 9),none⟩,⟨some 42, .call .deep (.v (.clo F.tens_size [] [])) [.t 40, .t 41],none⟩,⟨some 4, .asg (.t 42),none⟩,⟨some 5, .asg (.v (.int .i64 0)),none⟩]
def body : AC := .seq (.reg r0 [0, 1]) (.seq (.seq (.reg r1 [0, 1, 17]) (.cond (.t 17) (.seq (.reg r2 [4, 5]) (.ret)) (.skip))) (.seq (.reg r3 [1, 6, 7]) (.seq (.reg r4 [6, 7, 8, 9]) (.seq (.block 0 (.seq (.reg r5 [6, 7, 8, 9, 28]) (.cond (.t 28) (.seq (.reg r6 [4, 5]) (.ret)) (.seq (.reg r7 [7, 8, 9, 36]) (.cond (.t 36) (.seq (.reg r8 [4, 5]) (.ret)) (.seq (.reg r9 [7, 9, 38]) (.cond (.t 38) (.seq (.reg r10 [4, 5]) (.ret)) (.skip)))))))) (.seq (.reg r11 [4, 5]) (.ret))))))
def fn : AFun := ⟨[.val, .val], 43, [.tmp 4, .tmp 5], [], body⟩
end tens_Cmp
namespace hallmarkref03_trail
def r0 : List AO := [⟨some 10, .asg (.v (.bool false)),none⟩]
def r1 : List AO := [⟨some 12, .mv (.t 1),none⟩,⟨some 13, .mv (.t 2),none⟩,⟨some 14, .bin .add (.t 12) (.t 13),none⟩,⟨some 15, .mv (.t 0),none⟩,⟨some 16, .len true (.t 15),none⟩,⟨some 17, .bin .gtr (.t 14) (.t 16),none⟩]
def r2 : List AO := [⟨some 10, .asg (.v (.bool false)),none⟩]
def r3 : List AO := [⟨some 11, .asg (.v (.int .i64 0)),none⟩]
def r4 : List AO := [⟨some 18, .mv (.t 11),none⟩,⟨some 19, .mv (.t 2),none⟩,⟨some 20, .bin .lss (.t 18) (.t 19),none⟩]
def r6 : List AO := [⟨some 23, .mv (.t 0),none⟩,⟨some 24, .mv (.t 1),none⟩,⟨some 25, .mv (.t 11),none⟩,⟨some 26, .bin .add (.t 24) (.t 25),none⟩,⟨some 27, .idxS (.t 23) (.t 26),none⟩,⟨some 28, .bin .lss (.t 27) (.v (.int .u8 128)),none⟩,⟨some 29, .mv (.t 28),none⟩,⟨some 30, .mv (.t 0), some (29, false)⟩,⟨some 31, .mv (.t 1), some (29, false)⟩,⟨some 32, .mv (.t 11), some (29, false)⟩,⟨some 33, .bin .add (.t 31) (.t 32), some (29, false)⟩,⟨some 34, .idxS (.t 30) (.t 33), some (29, false)⟩,⟨some 35, .bin .gtr (.t 34) (.v (.int .u8 191)), some (29, false)⟩,⟨some 36, .pick (.t 29) (.v (.bool true)) (.t 35),none⟩]
def r7 : List AO := [⟨some 10, .asg (.v (.bool false)),none⟩]
def r5 : List AO := [⟨some 21, .mv (.t 11),none⟩,⟨some 22, .bin .add (.t 21) (.v (.int .i64 1)),none⟩,⟨some 11, .asg (.t 22),none⟩]
def l1 : AC := .seq (.seq (.reg r4 [0, 1, 2, 3, 4, 11, 20]) (.cond (.t 20) (.skip) (.exit 0))) (.seq (.block 1 (.seq (.reg r6 [0, 1, 2, 3, 4, 11, 36]) (.cond (.t 36) (.seq (.reg r7 [10]) (.ret)) (.skip)))) (.reg r5 [0, 1, 2, 3, 4, 11]))
def r8 : List AO := [⟨some 37, .mv (.t 0),none⟩,⟨some 38, .mv (.t 1),none⟩,⟨some 39, .idxS (.t 37) (.t 38),none⟩,⟨some 40, .mv (.t 3),none⟩,⟨some 41, .bin .geq (.t 39) (.t 40),none⟩,⟨some 42, .mv (.t 41),none⟩,⟨some 43, .mv (.t 0), some (42, true)⟩,⟨some 44, .mv (.t 1), some (42, true)⟩,⟨some 45, .idxS (.t 43) (.t 44), some (42, true)⟩,⟨some 46, .mv (.t 4), some (42, true)⟩,⟨some 47, .bin .leq (.t 45) (.t 46), some (42, true)⟩,⟨some 48, .pick (.t 42) (.t 47) (.v (.bool false)),none⟩,⟨some 10, .asg (.t 48),none⟩]
def body : AC := .seq (.reg r0 [0, 1, 2, 3, 4]) (.seq (.seq (.reg r1 [0, 1, 2, 3, 4, 17]) (.cond (.t 17) (.seq (.reg r2 [10]) (.ret)) (.skip))) (.seq (.seq (.reg r3 [0, 1, 2, 3, 4, 11]) (.block 0 (.loop [0, 1, 2, 3, 4, 11] l1))) (.seq (.reg r8 [10]) (.ret))))
def fn : AFun := ⟨[.val, .val, .val, .val, .val], 49, [.tmp 10], [], body⟩
end hallmarkref03_trail
namespace tens_Formed
def r0 : List AO := [⟨some 2, .asg (.v (.bool false)),none⟩]
def r1 : List AO := [⟨some 4, .mv (.t 0),none⟩,⟨some 5, .bin .eql (.t 4) (.v (.str [48])),none⟩]
def r2 : List AO := [⟨some 2, .asg (.v (.bool true)),none⟩]
def r3 : List AO := [⟨some 6, .mv (.t 0),none⟩,⟨some 7, .bin .neq (.t 6) (.v (.str [])),none⟩,⟨some 8, .mv (.t 7),none⟩,⟨some 9, .mv (.t 0), some (8, true)⟩,⟨some 10, .idxS (.t 9) (.v (.int .i64 0)), some (8, true)⟩,⟨some 11, .bin .eql (.t 10) (.v (.int .u8 45)), some (8, true)⟩,⟨some 12, .pick (.t 8) (.t 11) (.v (.bool false)),none⟩]
def r4 : List AO := [⟨some 13, .mv (.t 0),none⟩,⟨some 14, .slc true 1 (.t 13) (some (.v (.int .i64 1))) none,none⟩,⟨some 0, .asg (.t 14),none⟩]
def r5 : List AO := [⟨some 15, .mv (.t 0),none⟩,⟨some 16, .bin .eql (.t 15) (.v (.str [])),none⟩,⟨some 17, .mv (.t 16),none⟩,⟨some 18, .mv (.t 0), some (17, false)⟩,⟨some 19, .idxS (.t 18) (.v (.int .i64 0)), some (17, false)⟩,⟨some 20, .bin .eql (.t 19) (.v (.int .u8 48)), some (17, false)⟩,⟨some 21, .pick (.t 17) (.v (.bool true)) (.t 20),none⟩]
def r6 : List AO := [⟨some 2, .asg (.v (.bool false)),none⟩]
def r7 : List AO := [⟨some 22, .mv (.t 0),none⟩,⟨some 23, .len true (.t 22),none⟩,⟨some 24, .mv (.v (.int .i64 0)),none⟩]
def r8 : List AO := [⟨some 25, .bin .lss (.t 24) (.t 23),none⟩]
def r9 : List AO := [⟨some 26, .mv (.t 24),none⟩,⟨some 3, .asg (.t 26),none⟩]
def r10 : List AO := [⟨some 27, .mv (.t 0),none⟩,⟨some 28, .mv (.t 3),none⟩,⟨some 29, .idxS (.t 27) (.t 28),none⟩,⟨some 30, .bin .lss (.t 29) (.v (.int .u8 48)),none⟩,⟨some 31, .mv (.t 30),none⟩,⟨some 32, .mv (.t 0), some (31, false)⟩,⟨some 33, .mv (.t 3), some (31, false)⟩,⟨some 34, .idxS (.t 32) (.t 33), some (31, false)⟩,⟨some 35, .bin .gtr (.t 34) (.v (.int .u8 57)), some (31, false)⟩,⟨some 36, .pick (.t 31) (.v (.bool true)) (.t 35),none⟩]
def r11 : List AO := [⟨some 2, .asg (.v (.bool false)),none⟩]
def r12 : List AO := [⟨some 37, .bin .add (.t 24) (.v (.int .i64 1)),none⟩,⟨some 24, .mv (.t 37),none⟩]
def l1 : AC := .seq (.reg r8 [0, 23, 24, 25]) (.seq (.cond (.t 25) (.skip) (.exit 0)) (.seq (.block 1 (.seq (.reg r9 [0, 3, 23, 24]) (.seq (.reg r10 [0, 23, 24, 36]) (.cond (.t 36) (.seq (.reg r11 [2]) (.ret)) (.skip))))) (.reg r12 [0, 23, 24])))
def r13 : List AO := [⟨some 2, .asg (.v (.bool true)),none⟩]
def body : AC := .seq (.reg r0 [0]) (.seq (.seq (.reg r1 [0, 5]) (.cond (.t 5) (.seq (.reg r2 [2]) (.ret)) (.skip))) (.seq (.seq (.reg r3 [0, 12]) (.cond (.t 12) (.reg r4 [0]) (.skip))) (.seq (.seq (.reg r5 [0, 21]) (.cond (.t 21) (.seq (.reg r6 [2]) (.ret)) (.skip))) (.seq (.seq (.reg r7 [0, 23, 24]) (.block 0 (.loop [0, 23, 24] l1))) (.seq (.reg r13 [2]) (.ret))))))
def fn : AFun := ⟨[.val], 38, [.tmp 2], [], body⟩
end tens_Formed
namespace tens_split
def r0 : List AO := [⟨some 2, .asg (.v (.bool false)),none⟩,⟨some 3, .asg (.v (.str [])),none⟩]
def r1 : List AO := [⟨some 4, .mv (.t 0),none⟩,⟨some 5, .idxS (.t 4) (.v (.int .i64 0)),none⟩,⟨some 6, .bin .eql (.t 5) (.v (.int .u8 45)),none⟩]
def r2 : List Ph := [.bag false [] [0] [(0, ⟨some 7, .mv (.t 0),none⟩),(1, ⟨some 8, .slc true 1 (.t 7) (some (.v (.int .i64 1))) none,none⟩),(2, ⟨some 2, .asg (.v (.bool true)),none⟩),(3, ⟨some 3, .asg (.t 8),none⟩)]]
def r3 : List AO := [⟨some 9, .mv (.t 0),none⟩,⟨some 2, .asg (.v (.bool false)),none⟩,⟨some 3, .asg (.t 9),none⟩]
def body : AC := .seq (.reg r0 [0]) (.seq (.seq (.reg r1 [0, 6]) (.cond (.t 6) (.seq (.dreg r2 [2, 3]) (.ret)) (.skip))) (.seq (.reg r3 [2, 3]) (.ret)))
def fn : AFun := ⟨[.val], 10, [.tmp 2, .tmp 3], [], body⟩
end tens_split
namespace tens_size
def r0 : List AO := [⟨some 4, .asg (.v (.int .i64 0)),none⟩]
def r1 : List AO := [⟨some 6, .mv (.t 0),none⟩,⟨some 7, .len true (.t 6),none⟩,⟨some 8, .mv (.t 1),none⟩,⟨some 9, .len true (.t 8),none⟩,⟨some 10, .bin .neq (.t 7) (.t 9),none⟩,⟨some 5, .asg (.t 10),none⟩]
def r2 : List AO := [⟨some 11, .mv (.t 0),none⟩,⟨some 12, .len true (.t 11),none⟩,⟨some 13, .mv (.t 1),none⟩,⟨some 14, .len true (.t 13),none⟩,⟨some 15, .bin .sub (.t 12) (.t 14),none⟩,⟨some 16, .mm true [.t 15, .v (.int .i64 (-1))],none⟩,⟨some 17, .mm false [.t 16, .v (.int .i64 1)],none⟩,⟨some 4, .asg (.t 17),none⟩]
def r3 : List AO := [⟨some 19, .mv (.t 0),none⟩,⟨some 20, .mv (.t 1),none⟩,⟨some 21, .bin .lss (.t 19) (.t 20),none⟩,⟨some 18, .asg (.t 21),none⟩]
def r4 : List AO := [⟨some 4, .asg (.v (.int .i64 (-1))),none⟩]
def r5 : List AO := [⟨some 23, .mv (.t 0),none⟩,⟨some 24, .mv (.t 1),none⟩,⟨some 25, .bin .gtr (.t 23) (.t 24),none⟩,⟨some 22, .asg (.t 25),none⟩]
def r6 : List AO := [⟨some 4, .asg (.v (.int .i64 1)),none⟩]
def r7 : List AO := [⟨some 4, .asg (.v (.int .i64 0)),none⟩]
def body : AC := .seq (.reg r0 [0, 1]) (.seq (.block 0 (.seq (.reg r1 [0, 1, 5]) (.cond (.t 5) (.seq (.reg r2 [4]) (.ret)) (.seq (.reg r3 [0, 1, 18]) (.cond (.t 18) (.seq (.reg r4 [4]) (.ret)) (.seq (.reg r5 [22]) (.cond (.t 22) (.seq (.reg r6 [4]) (.ret)) (.skip)))))))) (.seq (.reg r7 [4]) (.ret)))
def fn : AFun := ⟨[.val, .val], 26, [.tmp 4], [], body⟩
end tens_size
namespace cmp_isNaN_string
def r0 : List AO := [⟨some 2, .asg (.v (.bool false)),none⟩]
def r1 : List AO := [⟨some 3, .mv (.t 0),none⟩,⟨some 4, .mv (.t 0),none⟩,⟨some 5, .bin .neq (.t 3) (.t 4),none⟩,⟨some 2, .asg (.t 5),none⟩]
def body : AC := .seq (.reg r0 [0]) (.seq (.reg r1 [2]) (.ret))
def fn : AFun := ⟨[.val], 6, [.tmp 2], [], body⟩
end cmp_isNaN_string
namespace slices_ContainsFunc_Lstring_string
def r0 : List AO := [⟨some 4, .asg (.v (.bool false)),none⟩]
def r1 : List AO := [⟨some 5, .mv (.t 0),none⟩,⟨some 6, .mv (.t 1),none⟩,⟨some 7, .call .deep (.v (.clo F.slices_IndexFunc_Lstring_string [] [])) [.t 5, .t 6],none⟩,⟨some 8, .bin .geq (.t 7) (.v (.int .i64 0)),none⟩,⟨some 4, .asg (.t 8),none⟩]
def body : AC := .seq (.reg r0 [0, 1]) (.seq (.reg r1 [4]) (.ret))
def fn : AFun := ⟨[.val, .val], 9, [.tmp 4], [], body⟩
end slices_ContainsFunc_Lstring_string
namespace slices_Index_Lstring_string
def r0 : List AO := [⟨some 4, .asg (.v (.int .i64 0)),none⟩]
def r1 : List AO := [⟨some 6, .mv (.t 0),none⟩,⟨some 7, .len false (.t 6),none⟩,⟨some 8, .mv (.v (.int .i64 0)),none⟩]
def r2 : List AO := [⟨some 9, .bin .lss (.t 8) (.t 7),none⟩]
def r3 : List AO := [⟨some 10, .mv (.t 8),none⟩,⟨some 5, .asg (.t 10),none⟩]
def r4 : List AO := [⟨some 11, .mv (.t 1),none⟩,⟨some 12, .mv (.t 0),none⟩,⟨some 13, .mv (.t 5),none⟩,⟨some 14, .iadr 1 (.t 12) (.t 13),none⟩,⟨some 15, .load 1 false (.t 14),none⟩,⟨some 16, .bin .eql (.t 11) (.t 15),none⟩]
def r5 : List AO := [⟨some 17, .mv (.t 5),none⟩,⟨some 4, .asg (.t 17),none⟩]
def r6 : List AO := [⟨some 18, .bin .add (.t 8) (.v (.int .i64 1)),none⟩,⟨some 8, .mv (.t 18),none⟩]
def l1 : AC := .seq (.reg r2 [0, 1, 7, 8, 9]) (.seq (.cond (.t 9) (.skip) (.exit 0)) (.seq (.block 1 (.seq (.reg r3 [0, 1, 5, 7, 8]) (.seq (.reg r4 [0, 1, 5, 7, 8, 16]) (.cond (.t 16) (.seq (.reg r5 [4]) (.ret)) (.skip))))) (.reg r6 [0, 1, 7, 8])))
def r7 : List AO := [⟨some 4, .asg (.v (.int .i64 (-1))),none⟩]
def body : AC := .seq (.reg r0 [0, 1]) (.seq (.seq (.reg r1 [0, 1, 7, 8]) (.block 0 (.loop [0, 1, 7, 8] l1))) (.seq (.reg r7 [4]) (.ret)))
def fn : AFun := ⟨[.val, .val], 19, [.tmp 4], [], body⟩
end slices_Index_Lstring_string
namespace slices_BinarySearch_Lstring_string
def r0 : List AO := [⟨some 4, .asg (.v (.int .i64 0)),none⟩,⟨some 5, .asg (.v (.bool false)),none⟩]
def r1 : List AO := [⟨some 10, .mv (.t 0),none⟩,⟨some 11, .len false (.t 10),none⟩,⟨some 6, .asg (.t 11),none⟩]
def r2 : List AO := [⟨some 12, .mv (.t 6),none⟩,⟨some 7, .asg (.v (.int .i64 0)),none⟩,⟨some 8, .asg (.t 12),none⟩]
def r3 : List AO := [⟨some 13, .mv (.t 7),none⟩,⟨some 14, .mv (.t 8),none⟩,⟨some 15, .bin .lss (.t 13) (.t 14),none⟩]
def r4 : List AO := [⟨some 16, .mv (.t 7),none⟩,⟨some 17, .mv (.t 8),none⟩,⟨some 18, .bin .add (.t 16) (.t 17),none⟩,⟨some 19, .conv (.int .u64) (.t 18),none⟩,⟨some 20, .bin .shr (.t 19) (.v (.int .u64 1)),none⟩,⟨some 21, .conv (.int .i64) (.t 20),none⟩,⟨some 9, .asg (.t 21),none⟩]
def r5 : List AO := [⟨some 22, .mv (.t 0),none⟩,⟨some 23, .mv (.t 9),none⟩,⟨some 24, .iadr 1 (.t 22) (.t 23),none⟩,⟨some 25, .load 1 false (.t 24),none⟩,⟨some 26, .mv (.t 1),none⟩,⟨some 27, .call .deep (.v (.clo F.cmp_Less_string [] [])) [.t 25, .t 26],none⟩]
def r6 : List AO := [⟨some 28, .mv (.t 9),none⟩,⟨some 29, .bin .add (.t 28) (.v (.int .i64 1)),none⟩,⟨some 7, .asg (.t 29),none⟩]
def r7 : List AO := [⟨some 30, .mv (.t 9),none⟩,⟨some 8, .asg (.t 30),none⟩]
def l1 : AC := .seq (.seq (.reg r3 [0, 1, 6, 7, 8, 15]) (.cond (.t 15) (.skip) (.exit 0))) (.block 1 (.seq (.reg r4 [0, 1, 6, 7, 8, 9]) (.seq (.reg r5 [0, 1, 6, 7, 8, 9, 27]) (.cond (.t 27) (.reg r6 [0, 1, 6, 7, 8]) (.reg r7 [0, 1, 6, 7, 8])))))
def r8 : List AO := [⟨some 31, .mv (.t 7),none⟩,⟨some 32, .mv (.t 7),none⟩,⟨some 33, .mv (.t 6),none⟩,⟨some 34, .bin .lss (.t 32) (.t 33),none⟩,⟨some 35, .mv (.t 34),none⟩,⟨some 36, .mv (.t 0), some (35, true)⟩,⟨some 37, .mv (.t 7), some (35, true)⟩,⟨some 38, .iadr 1 (.t 36) (.t 37), some (35, true)⟩,⟨some 39, .load 1 false (.t 38), some (35, true)⟩,⟨some 40, .mv (.t 1), some (35, true)⟩,⟨some 41, .bin .eql (.t 39) (.t 40), some (35, true)⟩,⟨some 42, .mv (.t 41), some (35, true)⟩,⟨some 43, .mv (.t 0), some (42, false)⟩,⟨some 44, .mv (.t 7), some (42, false)⟩,⟨some 45, .iadr 1 (.t 43) (.t 44), some (42, false)⟩,⟨some 46, .load 1 false (.t 45), some (42, false)⟩,⟨some 47, .call .deep (.v (.clo F.slices_isNaN_string [] [])) [.t 46], some (42, false)⟩,⟨some 48, .mv (.t 47), some (42, false)⟩,⟨some 49, .mv (.t 1), some (48, true)⟩,⟨some 50, .call .deep (.v (.clo F.slices_isNaN_string [] [])) [.t 49], some (48, true)⟩,⟨some 51, .pick (.t 48) (.t 50) (.v (.bool false)), some (42, false)⟩,⟨some 52, .pick (.t 42) (.v (.bool true)) (.t 51), some (35, true)⟩,⟨some 53, .pick (.t 35) (.t 52) (.v (.bool false)),none⟩,⟨some 4, .asg (.t 31),none⟩,⟨some 5, .asg (.t 53),none⟩]
def body : AC := .seq (.reg r0 [0, 1]) (.seq (.reg r1 [0, 1, 6]) (.seq (.reg r2 [0, 1, 6, 7, 8]) (.seq (.block 0 (.loop [0, 1, 6, 7, 8] l1)) (.seq (.reg r8 [4, 5]) (.ret)))))
def fn : AFun := ⟨[.val, .val], 54, [.tmp 4, .tmp 5], [], body⟩
end slices_BinarySearch_Lstring_string
namespace hallmarkref03_Get
def r0 : List AO := [⟨some 2, .box (.t 0),none⟩,⟨some 4, .alloc [.av (.int .i64 0), .av (.str []), .av (.str []), .own 5 [], .own 1 []],none⟩,⟨some 5, .asg (.v (.bool false)),none⟩]
def r1 : List AO := [⟨some 7, .fadr 0 (.t 2),none⟩,⟨some 8, .load 1 false (.t 7),none⟩,⟨some 9, .bin .neq (.t 8) (.v (.int .i64 6)),none⟩]
def r2 : List AO := [⟨some 10, .build [.av (.int .i64 0), .av (.str []), .av (.str []), .own 5 [], .own 1 []] [],none⟩,⟨none, .store 5 (.t 4) (.t 10),none⟩,⟨some 5, .asg (.v (.bool false)),none⟩]
def r3 : List AO := [⟨some 6, .asg (.v (.int .i64 0)),none⟩]
def r4 : List AO := [⟨some 11, .mv (.t 6),none⟩,⟨some 12, .fadr 4 (.t 2),none⟩,⟨some 13, .load 1 false (.t 12),none⟩,⟨some 14, .len false (.t 13),none⟩,⟨some 15, .bin .lss (.t 11) (.t 14),none⟩]
def r6 : List AO := [⟨some 18, .fadr 4 (.t 2),none⟩,⟨some 19, .load 1 false (.t 18),none⟩,⟨some 20, .mv (.t 6),none⟩,⟨some 21, .iadr 1 (.t 19) (.t 20),none⟩,⟨some 22, .load 1 false (.t 21),none⟩,⟨some 23, .mv (.t 1),none⟩,⟨some 24, .bin .eql (.t 22) (.t 23),none⟩]
def r7 : List AO := [⟨some 25, .mv (.t 6),none⟩,⟨some 26, .fadr 3 (.t 2),none⟩,⟨some 27, .load 1 false (.t 26),none⟩,⟨some 28, .len false (.t 27),none⟩,⟨some 29, .bin .geq (.t 25) (.t 28),none⟩]
def r8 : List AO := [⟨some 30, .build [.av (.int .i64 0), .av (.str []), .av (.str []), .own 5 [], .own 1 []] [],none⟩,⟨none, .store 5 (.t 4) (.t 30),none⟩,⟨some 5, .asg (.v (.bool false)),none⟩]
def r9 : List AO := [⟨some 31, .fadr 3 (.t 2),none⟩,⟨some 32, .take 1 false (.t 31),none⟩,⟨some 33, .mv (.t 6),none⟩,⟨some 34, .iadr 5 (.t 32) (.t 33),none⟩,⟨some 35, .load 5 true (.t 34),none⟩,⟨none, .store 5 (.t 4) (.t 35),none⟩,⟨some 5, .asg (.v (.bool true)),none⟩]
def r5 : List AO := [⟨some 16, .mv (.t 6),none⟩,⟨some 17, .bin .add (.t 16) (.v (.int .i64 1)),none⟩,⟨some 6, .asg (.t 17),none⟩]
def l1 : AC := .seq (.seq (.reg r4 [1, 2, 4, 6, 15]) (.cond (.t 15) (.skip) (.exit 0))) (.seq (.block 1 (.seq (.reg r6 [1, 2, 4, 6, 24]) (.cond (.t 24) (.seq (.seq (.reg r7 [2, 4, 6, 29]) (.cond (.t 29) (.seq (.reg r8 [4, 5]) (.ret)) (.skip))) (.seq (.reg r9 [4, 5]) (.ret))) (.skip)))) (.reg r5 [1, 2, 4, 6]))
def r10 : List AO := [⟨some 36, .build [.av (.int .i64 0), .av (.str []), .av (.str []), .own 5 [], .own 1 []] [],none⟩,⟨none, .store 5 (.t 4) (.t 36),none⟩,⟨some 5, .asg (.v (.bool false)),none⟩]
def body : AC := .seq (.reg r0 [1, 2, 4]) (.seq (.seq (.reg r1 [1, 2, 4, 9]) (.cond (.t 9) (.seq (.reg r2 [4, 5]) (.ret)) (.skip))) (.seq (.seq (.reg r3 [1, 2, 4, 6]) (.block 0 (.loop [1, 2, 4, 6] l1))) (.seq (.reg r10 [4, 5]) (.ret))))
def fn : AFun := ⟨[.val, .val], 37, [.cell 4 5 true, .tmp 5], [], body⟩
end hallmarkref03_Get
namespace hallmarkref03_Numbers
def r0 : List AO := [⟨some 4, .asg (.v (.int .i64 0)),none⟩]
def r1 : List AO := [⟨some 7, .mv (.t 0),none⟩,⟨some 8, .idxS (.t 7) (.v (.int .i64 0)),none⟩,⟨some 9, .bin .eql (.t 8) (.v (.int .u8 45)),none⟩,⟨some 5, .asg (.t 9),none⟩]
def r2 : List AO := [⟨some 10, .mv (.t 1),none⟩,⟨some 11, .idxS (.t 10) (.v (.int .i64 0)),none⟩,⟨some 12, .bin .eql (.t 11) (.v (.int .u8 45)),none⟩,⟨some 6, .asg (.t 12),none⟩]
def r3 : List AO := [⟨some 13, .mv (.t 5),none⟩,⟨some 14, .mv (.t 13),none⟩,⟨some 15, .mv (.t 6), some (14, true)⟩,⟨some 16, .un .not (.t 15), some (14, true)⟩,⟨some 17, .pick (.t 14) (.t 16) (.v (.bool false)),none⟩]
def r4 : List AO := [⟨some 4, .asg (.v (.int .i64 (-1))),none⟩]
def r5 : List AO := [⟨some 18, .mv (.t 6),none⟩,⟨some 19, .mv (.t 18),none⟩,⟨some 20, .mv (.t 5), some (19, true)⟩,⟨some 21, .un .not (.t 20), some (19, true)⟩,⟨some 22, .pick (.t 19) (.t 21) (.v (.bool false)),none⟩]
def r6 : List AO := [⟨some 4, .asg (.v (.int .i64 1)),none⟩]
def r7 : List AO := [⟨some 23, .mv (.t 5),none⟩]
def r8 : List Ph := [.bag false [] [0, 1] [(0, ⟨some 24, .mv (.t 1),none⟩),(1, ⟨some 25, .slc true 1 (.t 24) (some (.v (.int .i64 1))) none,none⟩),(2, ⟨some 26, .mv (.t 0),none⟩),(3, ⟨some 27, .slc true 1 (.t 26) (some (.v (.int .i64 1))) none,none⟩),(4, ⟨some 28, .call .deep (.v (.clo F.hallmarkref03_Numbers [] [])) [.t 25, .t 27],none⟩),(5, ⟨some 4, .asg (.t 28),none⟩)]]
def r9 : List AO := [⟨some 29, .mv (.t 0),none⟩,⟨some 30, .len true (.t 29),none⟩,⟨some 31, .mv (.t 1),none⟩,⟨some 32, .len true (.t 31),none⟩,⟨some 33, .bin .neq (.t 30) (.t 32),none⟩]
def r10 : List AO := [⟨some 34, .mv (.t 0),none⟩,⟨some 35, .len true (.t 34),none⟩,⟨some 36, .mv (.t 1),none⟩,⟨some 37, .len true (.t 36),none⟩,⟨some 38, .bin .lss (.t 35) (.t 37),none⟩]
def r11 : List AO := [⟨some 4, .asg (.v (.int .i64 (-1))),none⟩]
def r12 : List AO := [⟨some 4, .asg (.v (.int .i64 1)),none⟩]
def r13 : List AO := [⟨some 39, .mv (.t 0),none⟩,⟨some 40, .mv (.t 1),none⟩,⟨some 41, .call .deep (.v (.clo F.hallmarkref03_Texts [] [])) [.t 39, .t 40],none⟩,⟨some 4, .asg (.t 41),none⟩]
def body : AC := .seq (.reg r0 [0, 1]) (.seq (.reg r1 [0, 1, 5]) (.seq (.reg r2 [0, 1, 5, 6]) (.seq (.seq (.reg r3 [0, 1, 5, 6, 17]) (.cond (.t 17) (.seq (.reg r4 [4]) (.ret)) (.skip))) (.seq (.seq (.reg r5 [0, 1, 5, 22]) (.cond (.t 22) (.seq (.reg r6 [4]) (.ret)) (.skip))) (.seq (.seq (.reg r7 [0, 1, 23]) (.cond (.t 23) (.seq (.dreg r8 [4]) (.ret)) (.skip))) (.seq (.seq (.reg r9 [0, 1, 33]) (.cond (.t 33) (.seq (.seq (.reg r10 [38]) (.cond (.t 38) (.seq (.reg r11 [4]) (.ret)) (.skip))) (.seq (.reg r12 [4]) (.ret))) (.skip))) (.seq (.reg r13 [4]) (.ret))))))))
def fn : AFun := ⟨[.val, .val], 42, [.tmp 4], [], body⟩
end hallmarkref03_Numbers
namespace hallmarkref03_Texts
def r0 : List AO := [⟨some 4, .asg (.v (.int .i64 0)),none⟩]
def r1 : List AO := [⟨some 5, .mv (.t 0),none⟩,⟨some 6, .mv (.t 1),none⟩,⟨some 7, .bin .lss (.t 5) (.t 6),none⟩]
def r2 : List AO := [⟨some 4, .asg (.v (.int .i64 (-1))),none⟩]
def r3 : List AO := [⟨some 8, .mv (.t 0),none⟩,⟨some 9, .mv (.t 1),none⟩,⟨some 10, .bin .gtr (.t 8) (.t 9),none⟩]
def r4 : List AO := [⟨some 4, .asg (.v (.int .i64 1)),none⟩]
def r5 : List AO := [⟨some 4, .asg (.v (.int .i64 0)),none⟩]
def body : AC := .seq (.reg r0 [0, 1]) (.seq (.seq (.reg r1 [0, 1, 7]) (.cond (.t 7) (.seq (.reg r2 [4]) (.ret)) (.skip))) (.seq (.seq (.reg r3 [10]) (.cond (.t 10) (.seq (.reg r4 [4]) (.ret)) (.skip))) (.seq (.reg r5 [4]) (.ret))))
def fn : AFun := ⟨[.val, .val], 11, [.tmp 4], [], body⟩
end hallmarkref03_Texts
namespace slices_IndexFunc_Lstring_string
def r0 : List AO := [⟨some 4, .asg (.v (.int .i64 0)),none⟩]
def r1 : List AO := [⟨some 6, .mv (.t 0),none⟩,⟨some 7, .len false (.t 6),none⟩,⟨some 8, .mv (.v (.int .i64 0)),none⟩]
def r2 : List AO := [⟨some 9, .bin .lss (.t 8) (.t 7),none⟩]
def r3 : List AO := [⟨some 10, .mv (.t 8),none⟩,⟨some 5, .asg (.t 10),none⟩]
def r4 : List AO := [⟨some 11, .mv (.t 1),none⟩,⟨some 12, .mv (.t 0),none⟩,⟨some 13, .mv (.t 5),none⟩,⟨some 14, .iadr 1 (.t 12) (.t 13),none⟩,⟨some 15, .load 1 false (.t 14),none⟩,⟨some 16, .call .deep (.t 11) [.t 15],none⟩]
def r5 : List AO := [⟨some 17, .mv (.t 5),none⟩,⟨some 4, .asg (.t 17),none⟩]
def r6 : List AO := [⟨some 18, .bin .add (.t 8) (.v (.int .i64 1)),none⟩,⟨some 8, .mv (.t 18),none⟩]
def l1 : AC := .seq (.reg r2 [0, 1, 7, 8, 9]) (.seq (.cond (.t 9) (.skip) (.exit 0)) (.seq (.block 1 (.seq (.reg r3 [0, 1, 5, 7, 8]) (.seq (.reg r4 [0, 1, 5, 7, 8, 16]) (.cond (.t 16) (.seq (.reg r5 [4]) (.ret)) (.skip))))) (.reg r6 [0, 1, 7, 8])))
def r7 : List AO := [⟨some 4, .asg (.v (.int .i64 (-1))),none⟩]
def body : AC := .seq (.reg r0 [0, 1]) (.seq (.seq (.reg r1 [0, 1, 7, 8]) (.block 0 (.loop [0, 1, 7, 8] l1))) (.seq (.reg r7 [4]) (.ret)))
def fn : AFun := ⟨[.val, .val], 19, [.tmp 4], [], body⟩
end slices_IndexFunc_Lstring_string
namespace cmp_Less_string
def r0 : List AO := [⟨some 4, .asg (.v (.bool false)),none⟩]
def r1 : List AO := [⟨some 5, .mv (.t 0),none⟩,⟨some 6, .call .deep (.v (.clo F.cmp_isNaN_string [] [])) [.t 5],none⟩,⟨some 7, .mv (.t 6),none⟩,⟨some 8, .mv (.t 1), some (7, true)⟩,⟨some 9, .call .deep (.v (.clo F.cmp_isNaN_string [] [])) [.t 8], some (7, true)⟩,⟨some 10, .un .not (.t 9), some (7, true)⟩,⟨some 11, .pick (.t 7) (.t 10) (.v (.bool false)),none⟩,⟨some 12, .mv (.t 11),none⟩,⟨some 13, .mv (.t 0), some (12, false)⟩,⟨some 14, .mv (.t 1), some (12, false)⟩,⟨some 15, .bin .lss (.t 13) (.t 14), some (12, false)⟩,⟨some 16, .pick (.t 12) (.v (.bool true)) (.t 15),none⟩,⟨some 4, .asg (.t 16),none⟩]
def body : AC := .seq (.reg r0 [0, 1]) (.seq (.reg r1 [4]) (.ret))
def fn : AFun := ⟨[.val, .val], 17, [.tmp 4], [], body⟩
end cmp_Less_string
namespace slices_isNaN_string
def r0 : List AO := [⟨some 2, .asg (.v (.bool false)),none⟩]
def r1 : List AO := [⟨some 3, .mv (.t 0),none⟩,⟨some 4, .mv (.t 0),none⟩,⟨some 5, .bin .neq (.t 3) (.t 4),none⟩,⟨some 2, .asg (.t 5),none⟩]
def body : AC := .seq (.reg r0 [0]) (.seq (.reg r1 [2]) (.ret))
def fn : AFun := ⟨[.val], 6, [.tmp 2], [], body⟩
end slices_isNaN_string
namespace hallmarkkit_FitType
def r0 : List AO := [⟨some 1, .box (.t 0),none⟩,⟨some 2, .asg (.v (.bool false)),none⟩]
def r1 : List AO := [⟨some 3, .take 9 true (.t 1),none⟩,⟨some 4, .call .deep (.v (.clo F.hallmarkkit_typeParts [] [])) [.t 3, .v (.int .i64 20000)],none⟩,⟨some 5, .bin .leq (.t 4) (.v (.int .i64 20000)),none⟩,⟨some 2, .asg (.t 5),none⟩]
def body : AC := .seq (.reg r0 [1]) (.seq (.reg r1 [2]) (.ret))
def fn : AFun := ⟨[.val], 6, [.tmp 2], [], body⟩
end hallmarkkit_FitType
namespace hallmarkref09_Formed
def r0 : List AO := [⟨some 1, .box (.t 0),none⟩,⟨some 2, .asg (.v (.bool false)),none⟩]
def r1 : List AO := [⟨some 3, .fadr 0 (.t 1),none⟩,⟨some 4, .load 1 false (.t 3),none⟩,⟨some 5, .mv (.t 4),none⟩,⟨some 6, .load 9 true (.t 1), some (5, true)⟩,⟨some 7, .call .deep (.v (.clo F.hallmarkref09_Bare [] [])) [.t 6], some (5, true)⟩,⟨some 8, .un .not (.t 7), some (5, true)⟩,⟨some 9, .pick (.t 5) (.t 8) (.v (.bool false)),none⟩]
def r2 : List AO := [⟨some 2, .asg (.v (.bool false)),none⟩]
def r3 : List AO := [⟨some 10, .fadr 6 (.t 1),none⟩,⟨some 11, .load 1 false (.t 10),none⟩,⟨some 12, .call .deep (.v (.clo F.hallmarkref03_Rise [] [])) [.t 11],none⟩,⟨some 13, .un .not (.t 12),none⟩,⟨some 14, .mv (.t 13),none⟩,⟨some 15, .fadr 5 (.t 1), some (14, false)⟩,⟨some 16, .load 1 false (.t 15), some (14, false)⟩,⟨some 17, .mv (.t 16), some (14, false)⟩,⟨some 18, .fadr 6 (.t 1), some (17, true)⟩,⟨some 19, .load 1 false (.t 18), some (17, true)⟩,⟨some 20, .len false (.t 19), some (17, true)⟩,⟨some 21, .bin .gtr (.t 20) (.v (.int .i64 0)), some (17, true)⟩,⟨some 22, .pick (.t 17) (.t 21) (.v (.bool false)), some (14, false)⟩,⟨some 23, .pick (.t 14) (.v (.bool true)) (.t 22),none⟩]
def r4 : List AO := [⟨some 2, .asg (.v (.bool false)),none⟩]
def r5 : List AO := [⟨some 24, .fadr 4 (.t 1),none⟩,⟨some 25, .load 1 false (.t 24),none⟩,⟨some 26, .call .deep (.v (.clo F.hallmarkref09_Spans [] [])) [.t 25],none⟩,⟨some 27, .mv (.t 26),none⟩,⟨some 28, .fadr 7 (.t 1), some (27, true)⟩,⟨some 29, .load 1 false (.t 28), some (27, true)⟩,⟨some 30, .call .deep (.v (.clo F.hallmarkref09_arrays [] [])) [.t 29], some (27, true)⟩,⟨some 31, .pick (.t 27) (.t 30) (.v (.bool false)),none⟩,⟨some 32, .mv (.t 31),none⟩,⟨some 33, .fadr 8 (.t 1), some (32, true)⟩,⟨some 34, .take 1 false (.t 33), some (32, true)⟩,⟨some 35, .call .deep (.v (.clo F.hallmarkref09_objects [] [])) [.t 34], some (32, true)⟩,⟨some 36, .pick (.t 32) (.t 35) (.v (.bool false)),none⟩,⟨some 2, .asg (.t 36),none⟩]
def body : AC := .seq (.reg r0 [1]) (.seq (.seq (.reg r1 [1, 9]) (.cond (.t 9) (.seq (.reg r2 [2]) (.ret)) (.skip))) (.seq (.seq (.reg r3 [1, 23]) (.cond (.t 23) (.seq (.reg r4 [2]) (.ret)) (.skip))) (.seq (.reg r5 [2]) (.ret))))
def fn : AFun := ⟨[.val], 37, [.tmp 2], [], body⟩
end hallmarkref09_Formed
namespace hallmarkref09_Height
def r0 : List AO := [⟨some 1, .box (.t 0),none⟩,⟨some 2, .asg (.v (.int .i64 0)),none⟩]
def r1 : List AO := [⟨some 3, .asg (.v (.int .i64 0)),none⟩]
def r2 : List AO := [⟨some 4, .asg (.v (.int .i64 0)),none⟩]
def r3 : List AO := [⟨some 7, .mv (.t 4),none⟩,⟨some 8, .fadr 7 (.t 1),none⟩,⟨some 9, .load 1 false (.t 8),none⟩,⟨some 10, .len false (.t 9),none⟩,⟨some 11, .bin .lss (.t 7) (.t 10),none⟩]
def r5 : List AO := [⟨some 14, .mv (.t 3),none⟩,⟨some 15, .fadr 7 (.t 1),none⟩,⟨some 16, .load 1 false (.t 15),none⟩,⟨some 17, .mv (.t 4),none⟩,⟨some 18, .iadr 11 (.t 16) (.t 17),none⟩,⟨some 19, .fadr 0 (.t 18),none⟩,⟨some 20, .load 9 true (.t 19),none⟩,⟨some 21, .call .deep (.v (.clo F.hallmarkref09_higher [] [])) [.t 14, .t 20],none⟩,⟨some 3, .asg (.t 21),none⟩]
def r4 : List AO := [⟨some 12, .mv (.t 4),none⟩,⟨some 13, .bin .add (.t 12) (.v (.int .i64 1)),none⟩,⟨some 4, .asg (.t 13),none⟩]
def l1 : AC := .seq (.seq (.reg r3 [1, 3, 4, 11]) (.cond (.t 11) (.skip) (.exit 0))) (.seq (.block 1 (.reg r5 [1, 3, 4])) (.reg r4 [1, 3, 4]))
def r6 : List AO := [⟨some 5, .asg (.v (.int .i64 0)),none⟩]
def r7 : List AO := [⟨some 22, .mv (.t 5),none⟩,⟨some 23, .fadr 8 (.t 1),none⟩,⟨some 24, .load 1 false (.t 23),none⟩,⟨some 25, .len false (.t 24),none⟩,⟨some 26, .bin .lss (.t 22) (.t 25),none⟩]
def r9 : List AO := [⟨some 29, .mv (.t 3),none⟩,⟨some 30, .fadr 8 (.t 1),none⟩,⟨some 31, .load 1 false (.t 30),none⟩,⟨some 32, .mv (.t 5),none⟩,⟨some 33, .iadr 12 (.t 31) (.t 32),none⟩,⟨some 34, .fadr 3 (.t 33),none⟩,⟨some 35, .load 9 true (.t 34),none⟩,⟨some 36, .call .deep (.v (.clo F.hallmarkref09_higher [] [])) [.t 29, .t 35],none⟩,⟨some 3, .asg (.t 36),none⟩]
def r10 : List AO := [⟨some 6, .asg (.v (.int .i64 0)),none⟩]
def r11 : List AO := [⟨some 37, .mv (.t 6),none⟩,⟨some 38, .fadr 8 (.t 1),none⟩,⟨some 39, .load 1 false (.t 38),none⟩,⟨some 40, .mv (.t 5),none⟩,⟨some 41, .iadr 12 (.t 39) (.t 40),none⟩,⟨some 42, .fadr 1 (.t 41),none⟩,⟨some 43, .load 1 false (.t 42),none⟩,⟨some 44, .len false (.t 43),none⟩,⟨some 45, .bin .lss (.t 37) (.t 44),none⟩]
def r13 : List AO := [⟨some 48, .mv (.t 3),none⟩,⟨some 49, .fadr 8 (.t 1),none⟩,⟨some 50, .load 1 false (.t 49),none⟩,⟨some 51, .mv (.t 5),none⟩,⟨some 52, .iadr 12 (.t 50) (.t 51),none⟩,⟨some 53, .fadr 1 (.t 52),none⟩,⟨some 54, .load 1 false (.t 53),none⟩,⟨some 55, .mv (.t 6),none⟩,⟨some 56, .iadr 9 (.t 54) (.t 55),none⟩,⟨some 57, .load 9 true (.t 56),none⟩,⟨some 58, .call .deep (.v (.clo F.hallmarkref09_higher [] [])) [.t 48, .t 57],none⟩,⟨some 3, .asg (.t 58),none⟩]
def r12 : List AO := [⟨some 46, .mv (.t 6),none⟩,⟨some 47, .bin .add (.t 46) (.v (.int .i64 1)),none⟩,⟨some 6, .asg (.t 47),none⟩]
def l3 : AC := .seq (.seq (.reg r11 [1, 3, 5, 6, 45]) (.cond (.t 45) (.skip) (.exit 4))) (.seq (.block 5 (.reg r13 [1, 3, 5, 6])) (.reg r12 [1, 3, 5, 6]))
def r8 : List AO := [⟨some 27, .mv (.t 5),none⟩,⟨some 28, .bin .add (.t 27) (.v (.int .i64 1)),none⟩,⟨some 5, .asg (.t 28),none⟩]
def l2 : AC := .seq (.seq (.reg r7 [1, 3, 5, 26]) (.cond (.t 26) (.skip) (.exit 2))) (.seq (.block 3 (.seq (.reg r9 [1, 3, 5]) (.seq (.reg r10 [1, 3, 5, 6]) (.block 4 (.loop [1, 3, 5, 6] l3))))) (.reg r8 [1, 3, 5]))
def r14 : List AO := [⟨some 59, .mv (.t 3),none⟩,⟨some 2, .asg (.t 59),none⟩]
def body : AC := .seq (.reg r0 [1]) (.seq (.reg r1 [1, 3]) (.seq (.seq (.reg r2 [1, 3, 4]) (.block 0 (.loop [1, 3, 4] l1))) (.seq (.seq (.reg r6 [1, 3, 5]) (.block 2 (.loop [1, 3, 5] l2))) (.seq (.reg r14 [2]) (.ret)))))
def fn : AFun := ⟨[.val], 60, [.tmp 2], [], body⟩
end hallmarkref09_Height
namespace hallmarkkit_typeParts
def r0 : List AO := [⟨some 2, .box (.t 0),none⟩,⟨some 4, .asg (.v (.int .i64 0)),none⟩]
def r1 : List AO := [⟨some 9, .fadr 6 (.t 2),none⟩,⟨some 10, .load 1 false (.t 9),none⟩,⟨some 11, .len false (.t 10),none⟩,⟨some 12, .bin .add (.v (.int .i64 1)) (.t 11),none⟩,⟨some 13, .fadr 4 (.t 2),none⟩,⟨some 14, .load 1 false (.t 13),none⟩,⟨some 15, .len false (.t 14),none⟩,⟨some 16, .bin .add (.t 12) (.t 15),none⟩,⟨some 5, .asg (.t 16),none⟩]
def r2 : List AO := [⟨some 6, .asg (.v (.int .i64 0)),none⟩]
def r3 : List AO := [⟨some 17, .mv (.t 6),none⟩,⟨some 18, .fadr 7 (.t 2),none⟩,⟨some 19, .load 1 false (.t 18),none⟩,⟨some 20, .len false (.t 19),none⟩,⟨some 21, .bin .lss (.t 17) (.t 20),none⟩,⟨some 22, .mv (.t 21),none⟩,⟨some 23, .mv (.t 5), some (22, true)⟩,⟨some 24, .mv (.t 1), some (22, true)⟩,⟨some 25, .bin .leq (.t 23) (.t 24), some (22, true)⟩,⟨some 26, .pick (.t 22) (.t 25) (.v (.bool false)),none⟩]
def r5 : List AO := [⟨some 29, .mv (.t 5),none⟩,⟨some 30, .fadr 7 (.t 2),none⟩,⟨some 31, .load 1 false (.t 30),none⟩,⟨some 32, .mv (.t 6),none⟩,⟨some 33, .iadr 11 (.t 31) (.t 32),none⟩,⟨some 34, .fadr 0 (.t 33),none⟩,⟨some 35, .load 9 true (.t 34),none⟩,⟨some 36, .mv (.t 1),none⟩,⟨some 37, .mv (.t 5),none⟩,⟨some 38, .bin .sub (.t 36) (.t 37),none⟩,⟨some 39, .call .deep (.v (.clo F.hallmarkkit_typeParts [] [])) [.t 35, .t 38],none⟩,⟨some 40, .bin .add (.t 29) (.t 39),none⟩,⟨some 5, .asg (.t 40),none⟩]
def r4 : List AO := [⟨some 27, .mv (.t 6),none⟩,⟨some 28, .bin .add (.t 27) (.v (.int .i64 1)),none⟩,⟨some 6, .asg (.t 28),none⟩]
def l1 : AC := .seq (.seq (.reg r3 [1, 2, 5, 6, 26]) (.cond (.t 26) (.skip) (.exit 0))) (.seq (.block 1 (.reg r5 [1, 2, 5, 6])) (.reg r4 [1, 2, 5, 6]))
def r6 : List AO := [⟨some 7, .asg (.v (.int .i64 0)),none⟩]
def r7 : List AO := [⟨some 41, .mv (.t 7),none⟩,⟨some 42, .fadr 8 (.t 2),none⟩,⟨some 43, .load 1 false (.t 42),none⟩,⟨some 44, .len false (.t 43),none⟩,⟨some 45, .bin .lss (.t 41) (.t 44),none⟩,⟨some 46, .mv (.t 45),none⟩,⟨some 47, .mv (.t 5), some (46, true)⟩,⟨some 48, .mv (.t 1), some (46, true)⟩,⟨some 49, .bin .leq (.t 47) (.t 48), some (46, true)⟩,⟨some 50, .pick (.t 46) (.t 49) (.v (.bool false)),none⟩]
def r9 : List Ph := [.bag false [] [1, 75] [(0, ⟨some 53, .mv (.t 5),none⟩),(1, ⟨some 54, .fadr 8 (.t 2),none⟩),(2, ⟨some 55, .load 1 false (.t 54),none⟩),(3, ⟨some 56, .mv (.t 7),none⟩),(4, ⟨some 57, .iadr 12 (.t 55) (.t 56),none⟩),(5, ⟨some 58, .fadr 0 (.t 57),none⟩),(6, ⟨some 59, .load 1 false (.t 58),none⟩),(7, ⟨some 60, .len false (.t 59),none⟩),(8, ⟨some 61, .bin .add (.t 53) (.t 60),none⟩),(9, ⟨some 62, .fadr 8 (.t 2),none⟩),(10, ⟨some 63, .load 1 false (.t 62),none⟩),(11, ⟨some 64, .mv (.t 7),none⟩),(12, ⟨some 65, .iadr 12 (.t 63) (.t 64),none⟩),(13, ⟨some 66, .fadr 2 (.t 65),none⟩),(14, ⟨some 67, .load 1 false (.t 66),none⟩),(15, ⟨some 68, .len false (.t 67),none⟩),(16, ⟨some 69, .bin .add (.t 61) (.t 68),none⟩),(17, ⟨some 70, .fadr 8 (.t 2),none⟩),(18, ⟨some 71, .load 1 false (.t 70),none⟩),(19, ⟨some 72, .mv (.t 7),none⟩),(20, ⟨some 73, .iadr 12 (.t 71) (.t 72),none⟩),(21, ⟨some 74, .fadr 3 (.t 73),none⟩),(22, ⟨some 75, .load 9 true (.t 74),none⟩),(23, ⟨some 76, .mv (.t 1),none⟩),(24, ⟨some 77, .mv (.t 5),none⟩),(25, ⟨some 78, .bin .sub (.t 76) (.t 77),none⟩),(26, ⟨some 79, .call .deep (.v (.clo F.hallmarkkit_typeParts [] [])) [.t 75, .t 78],none⟩),(27, ⟨some 80, .bin .add (.t 69) (.t 79),none⟩),(28, ⟨some 5, .asg (.t 80),none⟩)]]
def r10 : List AO := [⟨some 8, .asg (.v (.int .i64 0)),none⟩]
def r11 : List AO := [⟨some 81, .mv (.t 8),none⟩,⟨some 82, .fadr 8 (.t 2),none⟩,⟨some 83, .load 1 false (.t 82),none⟩,⟨some 84, .mv (.t 7),none⟩,⟨some 85, .iadr 12 (.t 83) (.t 84),none⟩,⟨some 86, .fadr 1 (.t 85),none⟩,⟨some 87, .load 1 false (.t 86),none⟩,⟨some 88, .len false (.t 87),none⟩,⟨some 89, .bin .lss (.t 81) (.t 88),none⟩,⟨some 90, .mv (.t 89),none⟩,⟨some 91, .mv (.t 5), some (90, true)⟩,⟨some 92, .mv (.t 1), some (90, true)⟩,⟨some 93, .bin .leq (.t 91) (.t 92), some (90, true)⟩,⟨some 94, .pick (.t 90) (.t 93) (.v (.bool false)),none⟩]
def r13 : List AO := [⟨some 97, .mv (.t 5),none⟩,⟨some 98, .fadr 8 (.t 2),none⟩,⟨some 99, .load 1 false (.t 98),none⟩,⟨some 100, .mv (.t 7),none⟩,⟨some 101, .iadr 12 (.t 99) (.t 100),none⟩,⟨some 102, .fadr 1 (.t 101),none⟩,⟨some 103, .load 1 false (.t 102),none⟩,⟨some 104, .mv (.t 8),none⟩,⟨some 105, .iadr 9 (.t 103) (.t 104),none⟩,⟨some 106, .load 9 true (.t 105),none⟩,⟨some 107, .mv (.t 1),none⟩,⟨some 108, .mv (.t 5),none⟩,⟨some 109, .bin .sub (.t 107) (.t 108),none⟩,⟨some 110, .call .deep (.v (.clo F.hallmarkkit_typeParts [] [])) [.t 106, .t 109],none⟩,⟨some 111, .bin .add (.t 97) (.t 110),none⟩,⟨some 5, .asg (.t 111),none⟩]
def r12 : List AO := [⟨some 95, .mv (.t 8),none⟩,⟨some 96, .bin .add (.t 95) (.v (.int .i64 1)),none⟩,⟨some 8, .asg (.t 96),none⟩]
def l3 : AC := .seq (.seq (.reg r11 [1, 2, 5, 7, 8, 94]) (.cond (.t 94) (.skip) (.exit 4))) (.seq (.block 5 (.reg r13 [1, 2, 5, 7, 8])) (.reg r12 [1, 2, 5, 7, 8]))
def r8 : List AO := [⟨some 51, .mv (.t 7),none⟩,⟨some 52, .bin .add (.t 51) (.v (.int .i64 1)),none⟩,⟨some 7, .asg (.t 52),none⟩]
def l2 : AC := .seq (.seq (.reg r7 [1, 2, 5, 7, 50]) (.cond (.t 50) (.skip) (.exit 2))) (.seq (.block 3 (.seq (.dreg r9 [1, 2, 5, 7]) (.seq (.reg r10 [1, 2, 5, 7, 8]) (.block 4 (.loop [1, 2, 5, 7, 8] l3))))) (.reg r8 [1, 2, 5, 7]))
def r14 : List AO := [⟨some 112, .mv (.t 5),none⟩,⟨some 4, .asg (.t 112),none⟩]
def body : AC := .seq (.reg r0 [1, 2]) (.seq (.reg r1 [1, 2, 5]) (.seq (.seq (.reg r2 [1, 2, 5, 6]) (.block 0 (.loop [1, 2, 5, 6] l1))) (.seq (.seq (.reg r6 [1, 2, 5, 7]) (.block 2 (.loop [1, 2, 5, 7] l2))) (.seq (.reg r14 [4]) (.ret)))))
def fn : AFun := ⟨[.val, .val], 113, [.tmp 4], [], body⟩
end hallmarkkit_typeParts
namespace hallmarkref09_Bare
def r0 : List AO := [⟨some 1, .box (.t 0),none⟩,⟨some 2, .asg (.v (.bool false)),none⟩]
def r1 : List AO := [⟨some 4, .fadr 1 (.t 1),none⟩,⟨some 5, .load 1 false (.t 4),none⟩,⟨some 6, .mv (.t 5),none⟩,⟨some 7, .fadr 2 (.t 1), some (6, false)⟩,⟨some 8, .load 1 false (.t 7), some (6, false)⟩,⟨some 9, .pick (.t 6) (.v (.bool true)) (.t 8),none⟩,⟨some 10, .mv (.t 9),none⟩,⟨some 11, .fadr 3 (.t 1), some (10, false)⟩,⟨some 12, .load 1 false (.t 11), some (10, false)⟩,⟨some 13, .pick (.t 10) (.v (.bool true)) (.t 12),none⟩,⟨some 14, .mv (.t 13),none⟩,⟨some 15, .fadr 5 (.t 1), some (14, false)⟩,⟨some 16, .load 1 false (.t 15), some (14, false)⟩,⟨some 17, .pick (.t 14) (.v (.bool true)) (.t 16),none⟩,⟨some 3, .asg (.t 17),none⟩]
def r2 : List AO := [⟨some 18, .mv (.t 3),none⟩,⟨some 19, .un .not (.t 18),none⟩,⟨some 20, .mv (.t 19),none⟩,⟨some 21, .fadr 4 (.t 1), some (20, true)⟩,⟨some 22, .load 1 false (.t 21), some (20, true)⟩,⟨some 23, .len false (.t 22), some (20, true)⟩,⟨some 24, .bin .eql (.t 23) (.v (.int .i64 0)), some (20, true)⟩,⟨some 25, .pick (.t 20) (.t 24) (.v (.bool false)),none⟩,⟨some 26, .mv (.t 25),none⟩,⟨some 27, .fadr 6 (.t 1), some (26, true)⟩,⟨some 28, .load 1 false (.t 27), some (26, true)⟩,⟨some 29, .len false (.t 28), some (26, true)⟩,⟨some 30, .bin .eql (.t 29) (.v (.int .i64 0)), some (26, true)⟩,⟨some 31, .pick (.t 26) (.t 30) (.v (.bool false)),none⟩,⟨some 32, .mv (.t 31),none⟩,⟨some 33, .fadr 7 (.t 1), some (32, true)⟩,⟨some 34, .load 1 false (.t 33), some (32, true)⟩,⟨some 35, .len false (.t 34), some (32, true)⟩,⟨some 36, .bin .eql (.t 35) (.v (.int .i64 0)), some (32, true)⟩,⟨some 37, .pick (.t 32) (.t 36) (.v (.bool false)),none⟩,⟨some 38, .mv (.t 37),none⟩,⟨some 39, .fadr 8 (.t 1), some (38, true)⟩,⟨some 40, .take 1 false (.t 39), some (38, true)⟩,⟨some 41, .len false (.t 40), some (38, true)⟩,⟨some 42, .bin .eql (.t 41) (.v (.int .i64 0)), some (38, true)⟩,⟨some 43, .pick (.t 38) (.t 42) (.v (.bool false)),none⟩,⟨some 2, .asg (.t 43),none⟩]
def body : AC := .seq (.reg r0 [1]) (.seq (.reg r1 [1, 3]) (.seq (.reg r2 [2]) (.ret)))
def fn : AFun := ⟨[.val], 44, [.tmp 2], [], body⟩
end hallmarkref09_Bare
namespace hallmarkref09_Spans
def r0 : List AO := [⟨some 2, .asg (.v (.bool false)),none⟩]
def r1 : List AO := [⟨some 4, .mv (.t 0),none⟩,⟨some 5, .len false (.t 4),none⟩,⟨some 6, .bin .gtr (.t 5) (.v (.int .i64 1)),none⟩]
def r2 : List AO := [⟨some 2, .asg (.v (.bool false)),none⟩]
def r3 : List AO := [⟨some 3, .asg (.v (.int .i64 0)),none⟩]
def r4 : List AO := [⟨some 7, .mv (.t 3),none⟩,⟨some 8, .mv (.t 0),none⟩,⟨some 9, .len false (.t 8),none⟩,⟨some 10, .bin .lss (.t 7) (.t 9),none⟩]
def r6 : List AO := [⟨some 13, .mv (.t 0),none⟩,⟨some 14, .mv (.t 3),none⟩,⟨some 15, .iadr 2 (.t 13) (.t 14),none⟩,⟨some 16, .fadr 0 (.t 15),none⟩,⟨some 17, .load 1 false (.t 16),none⟩,⟨some 18, .call .deep (.v (.clo F.hallmarkref09_bound [] [])) [.t 17],none⟩,⟨some 19, .un .not (.t 18),none⟩,⟨some 20, .mv (.t 19),none⟩,⟨some 21, .mv (.t 0), some (20, false)⟩,⟨some 22, .mv (.t 3), some (20, false)⟩,⟨some 23, .iadr 2 (.t 21) (.t 22), some (20, false)⟩,⟨some 24, .fadr 1 (.t 23), some (20, false)⟩,⟨some 25, .load 1 false (.t 24), some (20, false)⟩,⟨some 26, .call .deep (.v (.clo F.hallmarkref09_bound [] [])) [.t 25], some (20, false)⟩,⟨some 27, .un .not (.t 26), some (20, false)⟩,⟨some 28, .pick (.t 20) (.v (.bool true)) (.t 27),none⟩]
def r7 : List AO := [⟨some 2, .asg (.v (.bool false)),none⟩]
def r8 : List Ph := [.bag false [] [] [(0, ⟨some 29, .mv (.t 0),none⟩),(1, ⟨some 30, .mv (.t 3),none⟩),(2, ⟨some 31, .iadr 2 (.t 29) (.t 30),none⟩),(3, ⟨some 32, .fadr 0 (.t 31),none⟩),(4, ⟨some 33, .load 1 false (.t 32),none⟩),(5, ⟨some 34, .bin .neq (.t 33) (.v (.str [])),none⟩),(6, ⟨some 35, .mv (.t 34),none⟩),(7, ⟨some 36, .mv (.t 0), some (35, true)⟩),(8, ⟨some 37, .mv (.t 3), some (35, true)⟩),(9, ⟨some 38, .iadr 2 (.t 36) (.t 37), some (35, true)⟩),(10, ⟨some 39, .fadr 1 (.t 38), some (35, true)⟩),(11, ⟨some 40, .load 1 false (.t 39), some (35, true)⟩),(12, ⟨some 41, .bin .neq (.t 40) (.v (.str [])), some (35, true)⟩),(13, ⟨some 42, .pick (.t 35) (.t 41) (.v (.bool false)),none⟩),(14, ⟨some 43, .mv (.t 42),none⟩),(15, ⟨some 44, .mv (.t 0), some (43, true)⟩),(16, ⟨some 45, .mv (.t 3), some (43, true)⟩),(17, ⟨some 46, .iadr 2 (.t 44) (.t 45), some (43, true)⟩),(18, ⟨some 47, .fadr 0 (.t 46), some (43, true)⟩),(19, ⟨some 48, .load 1 false (.t 47), some (43, true)⟩),(20, ⟨some 49, .mv (.t 0), some (43, true)⟩),(21, ⟨some 50, .mv (.t 3), some (43, true)⟩),(22, ⟨some 51, .iadr 2 (.t 49) (.t 50), some (43, true)⟩),(23, ⟨some 52, .fadr 1 (.t 51), some (43, true)⟩),(24, ⟨some 53, .load 1 false (.t 52), some (43, true)⟩),(25, ⟨some 54, .call .deep (.v (.clo F.hallmarkref03_Numbers [] [])) [.t 48, .t 53], some (43, true)⟩),(26, ⟨some 55, .bin .gtr (.t 54) (.v (.int .i64 0)), some (43, true)⟩),(27, ⟨some 56, .pick (.t 43) (.t 55) (.v (.bool false)),none⟩)]]
def r9 : List AO := [⟨some 2, .asg (.v (.bool false)),none⟩]
def r5 : List AO := [⟨some 11, .mv (.t 3),none⟩,⟨some 12, .bin .add (.t 11) (.v (.int .i64 1)),none⟩,⟨some 3, .asg (.t 12),none⟩]
def l1 : AC := .seq (.seq (.reg r4 [0, 3, 10]) (.cond (.t 10) (.skip) (.exit 0))) (.seq (.block 1 (.seq (.seq (.reg r6 [0, 3, 28]) (.cond (.t 28) (.seq (.reg r7 [2]) (.ret)) (.skip))) (.seq (.dreg r8 [0, 3, 56]) (.cond (.t 56) (.seq (.reg r9 [2]) (.ret)) (.skip))))) (.reg r5 [0, 3]))
def r10 : List AO := [⟨some 2, .asg (.v (.bool true)),none⟩]
def body : AC := .seq (.reg r0 [0]) (.seq (.seq (.reg r1 [0, 6]) (.cond (.t 6) (.seq (.reg r2 [2]) (.ret)) (.skip))) (.seq (.seq (.reg r3 [0, 3]) (.block 0 (.loop [0, 3] l1))) (.seq (.reg r10 [2]) (.ret))))
def fn : AFun := ⟨[.val], 57, [.tmp 2], [], body⟩
end hallmarkref09_Spans
namespace hallmarkref09_arrays
def r0 : List AO := [⟨some 2, .asg (.v (.bool false)),none⟩]
def r1 : List AO := [⟨some 4, .mv (.t 0),none⟩,⟨some 5, .len false (.t 4),none⟩,⟨some 6, .bin .gtr (.t 5) (.v (.int .i64 1)),none⟩]
def r2 : List AO := [⟨some 2, .asg (.v (.bool false)),none⟩]
def r3 : List AO := [⟨some 3, .asg (.v (.int .i64 0)),none⟩]
def r4 : List AO := [⟨some 7, .mv (.t 3),none⟩,⟨some 8, .mv (.t 0),none⟩,⟨some 9, .len false (.t 8),none⟩,⟨some 10, .bin .lss (.t 7) (.t 9),none⟩]
def r6 : List Ph := [.bag false [] [] [(0, ⟨some 13, .mv (.t 0),none⟩),(1, ⟨some 14, .mv (.t 3),none⟩),(2, ⟨some 15, .iadr 11 (.t 13) (.t 14),none⟩),(3, ⟨some 16, .fadr 9 (.t 15),none⟩),(4, ⟨some 17, .load 1 false (.t 16),none⟩),(5, ⟨some 18, .bin .lss (.t 17) (.v (.int .i64 0)),none⟩),(6, ⟨some 19, .mv (.t 18),none⟩),(7, ⟨some 20, .mv (.t 0), some (19, false)⟩),(8, ⟨some 21, .mv (.t 3), some (19, false)⟩),(9, ⟨some 22, .iadr 11 (.t 20) (.t 21), some (19, false)⟩),(10, ⟨some 23, .fadr 10 (.t 22), some (19, false)⟩),(11, ⟨some 24, .load 1 false (.t 23), some (19, false)⟩),(12, ⟨some 25, .bin .lss (.t 24) (.v (.int .i64 (-1))), some (19, false)⟩),(13, ⟨some 26, .pick (.t 19) (.v (.bool true)) (.t 25),none⟩),(14, ⟨some 27, .mv (.t 26),none⟩),(15, ⟨some 28, .mv (.t 0), some (27, false)⟩),(16, ⟨some 29, .mv (.t 3), some (27, false)⟩),(17, ⟨some 30, .iadr 11 (.t 28) (.t 29), some (27, false)⟩),(18, ⟨some 31, .fadr 10 (.t 30), some (27, false)⟩),(19, ⟨some 32, .load 1 false (.t 31), some (27, false)⟩),(20, ⟨some 33, .bin .geq (.t 32) (.v (.int .i64 0)), some (27, false)⟩),(21, ⟨some 34, .mv (.t 33), some (27, false)⟩),(22, ⟨some 35, .mv (.t 0), some (34, true)⟩),(23, ⟨some 36, .mv (.t 3), some (34, true)⟩),(24, ⟨some 37, .iadr 11 (.t 35) (.t 36), some (34, true)⟩),(25, ⟨some 38, .fadr 10 (.t 37), some (34, true)⟩),(26, ⟨some 39, .load 1 false (.t 38), some (34, true)⟩),(27, ⟨some 40, .mv (.t 0), some (34, true)⟩),(28, ⟨some 41, .mv (.t 3), some (34, true)⟩),(29, ⟨some 42, .iadr 11 (.t 40) (.t 41), some (34, true)⟩),(30, ⟨some 43, .fadr 9 (.t 42), some (34, true)⟩),(31, ⟨some 44, .load 1 false (.t 43), some (34, true)⟩),(32, ⟨some 45, .bin .lss (.t 39) (.t 44), some (34, true)⟩),(33, ⟨some 46, .pick (.t 34) (.t 45) (.v (.bool false)), some (27, false)⟩),(34, ⟨some 47, .pick (.t 27) (.v (.bool true)) (.t 46),none⟩)]]
def r7 : List AO := [⟨some 2, .asg (.v (.bool false)),none⟩]
def r8 : List Ph := [.bag false [] [52, 60] [(0, ⟨some 48, .mv (.t 0),none⟩),(1, ⟨some 49, .mv (.t 3),none⟩),(2, ⟨some 50, .iadr 11 (.t 48) (.t 49),none⟩),(3, ⟨some 51, .fadr 0 (.t 50),none⟩),(4, ⟨some 52, .load 9 true (.t 51),none⟩),(5, ⟨some 53, .call .deep (.v (.clo F.hallmarkref09_Formed [] [])) [.t 52],none⟩),(6, ⟨some 54, .un .not (.t 53),none⟩),(7, ⟨some 55, .mv (.t 54),none⟩),(8, ⟨some 56, .mv (.t 0), some (55, false)⟩),(9, ⟨some 57, .mv (.t 3), some (55, false)⟩),(10, ⟨some 58, .iadr 11 (.t 56) (.t 57), some (55, false)⟩),(11, ⟨some 59, .fadr 0 (.t 58), some (55, false)⟩),(12, ⟨some 60, .load 9 true (.t 59), some (55, false)⟩),(13, ⟨some 61, .call .deep (.v (.clo F.hallmarkref09_Never [] [])) [.t 60], some (55, false)⟩),(14, ⟨some 62, .mv (.t 0), some (55, false)⟩),(15, ⟨some 63, .mv (.t 3), some (55, false)⟩),(16, ⟨some 64, .iadr 11 (.t 62) (.t 63), some (55, false)⟩),(17, ⟨some 65, .fadr 10 (.t 64), some (55, false)⟩),(18, ⟨some 66, .load 1 false (.t 65), some (55, false)⟩),(19, ⟨some 67, .bin .eql (.t 66) (.v (.int .i64 0)), some (55, false)⟩),(20, ⟨some 68, .binB true (.t 61) (.t 67), some (55, false)⟩),(21, ⟨some 69, .pick (.t 55) (.v (.bool true)) (.t 68),none⟩)]]
def r9 : List AO := [⟨some 2, .asg (.v (.bool false)),none⟩]
def r5 : List AO := [⟨some 11, .mv (.t 3),none⟩,⟨some 12, .bin .add (.t 11) (.v (.int .i64 1)),none⟩,⟨some 3, .asg (.t 12),none⟩]
def l1 : AC := .seq (.seq (.reg r4 [0, 3, 10]) (.cond (.t 10) (.skip) (.exit 0))) (.seq (.block 1 (.seq (.seq (.dreg r6 [0, 3, 47]) (.cond (.t 47) (.seq (.reg r7 [2]) (.ret)) (.skip))) (.seq (.dreg r8 [0, 3, 69]) (.cond (.t 69) (.seq (.reg r9 [2]) (.ret)) (.skip))))) (.reg r5 [0, 3]))
def r10 : List AO := [⟨some 2, .asg (.v (.bool true)),none⟩]
def body : AC := .seq (.reg r0 [0]) (.seq (.seq (.reg r1 [0, 6]) (.cond (.t 6) (.seq (.reg r2 [2]) (.ret)) (.skip))) (.seq (.seq (.reg r3 [0, 3]) (.block 0 (.loop [0, 3] l1))) (.seq (.reg r10 [2]) (.ret))))
def fn : AFun := ⟨[.val], 70, [.tmp 2], [], body⟩
end hallmarkref09_arrays
namespace hallmarkref09_objects
def r0 : List AO := [⟨some 2, .asg (.v (.bool false)),none⟩]
def r1 : List AO := [⟨some 3, .asg (.v (.int .i64 0)),none⟩]
def r2 : List AO := [⟨some 4, .mv (.t 3),none⟩,⟨some 5, .mv (.t 0),none⟩,⟨some 6, .len false (.t 5),none⟩,⟨some 7, .bin .lss (.t 4) (.t 6),none⟩]
def r4 : List AO := [⟨some 10, .mv (.t 0),none⟩,⟨some 11, .mv (.t 3),none⟩,⟨some 12, .iadr 12 (.t 10) (.t 11),none⟩,⟨some 13, .load 12 true (.t 12),none⟩,⟨some 14, .call .deep (.v (.clo F.hallmarkref09_object [] [])) [.t 13],none⟩,⟨some 15, .un .not (.t 14),none⟩]
def r5 : List AO := [⟨some 2, .asg (.v (.bool false)),none⟩]
def r3 : List AO := [⟨some 8, .mv (.t 3),none⟩,⟨some 9, .bin .add (.t 8) (.v (.int .i64 1)),none⟩,⟨some 3, .asg (.t 9),none⟩]
def l1 : AC := .seq (.seq (.reg r2 [0, 3, 7]) (.cond (.t 7) (.skip) (.exit 0))) (.seq (.block 1 (.seq (.reg r4 [0, 3, 15]) (.cond (.t 15) (.seq (.reg r5 [2]) (.ret)) (.skip)))) (.reg r3 [0, 3]))
def r6 : List AO := [⟨some 2, .asg (.v (.bool true)),none⟩]
def body : AC := .seq (.reg r0 [0]) (.seq (.seq (.reg r1 [0, 3]) (.block 0 (.loop [0, 3] l1))) (.seq (.reg r6 [2]) (.ret)))
def fn : AFun := ⟨[.val], 16, [.tmp 2], [], body⟩
end hallmarkref09_objects
namespace hallmarkref09_higher
def r0 : List AO := [⟨some 3, .box (.t 1),none⟩,⟨some 4, .asg (.v (.int .i64 0)),none⟩]
def r1 : List AO := [⟨some 6, .take 9 true (.t 3),none⟩,⟨some 7, .call .deep (.v (.clo F.hallmarkref09_Height [] [])) [.t 6],none⟩,⟨some 5, .asg (.t 7),none⟩]
def r2 : List AO := [⟨some 8, .mv (.t 5),none⟩,⟨some 9, .bin .add (.t 8) (.v (.int .i64 1)),none⟩,⟨some 10, .mv (.t 0),none⟩,⟨some 11, .bin .gtr (.t 9) (.t 10),none⟩]
def r3 : List AO := [⟨some 12, .mv (.t 5),none⟩,⟨some 13, .bin .add (.t 12) (.v (.int .i64 1)),none⟩,⟨some 4, .asg (.t 13),none⟩]
def r4 : List AO := [⟨some 14, .mv (.t 0),none⟩,⟨some 4, .asg (.t 14),none⟩]
def body : AC := .seq (.reg r0 [0, 3]) (.seq (.reg r1 [0, 5]) (.seq (.seq (.reg r2 [0, 5, 11]) (.cond (.t 11) (.seq (.reg r3 [4]) (.ret)) (.skip))) (.seq (.reg r4 [4]) (.ret))))
def fn : AFun := ⟨[.val, .val], 15, [.tmp 4], [], body⟩
end hallmarkref09_higher
namespace hallmarkref09_bound
def r0 : List AO := [⟨some 2, .asg (.v (.bool false)),none⟩]
def r1 : List AO := [⟨some 3, .mv (.t 0),none⟩,⟨some 4, .bin .eql (.t 3) (.v (.str [])),none⟩,⟨some 5, .mv (.t 4),none⟩,⟨some 6, .mv (.t 0), some (5, false)⟩,⟨some 7, .call .deep (.v (.clo F.hallmarkref03_Number [] [])) [.t 6], some (5, false)⟩,⟨some 8, .pick (.t 5) (.v (.bool true)) (.t 7),none⟩,⟨some 2, .asg (.t 8),none⟩]
def body : AC := .seq (.reg r0 [0]) (.seq (.reg r1 [2]) (.ret))
def fn : AFun := ⟨[.val], 9, [.tmp 2], [], body⟩
end hallmarkref09_bound
namespace hallmarkref09_Never
def r0 : List AO := [⟨some 1, .box (.t 0),none⟩,⟨some 2, .asg (.v (.bool false)),none⟩]
def r1 : List AO := [⟨some 3, .fadr 0 (.t 1),none⟩,⟨some 4, .load 1 false (.t 3),none⟩,⟨some 5, .un .not (.t 4),none⟩,⟨some 6, .mv (.t 5),none⟩,⟨some 7, .take 9 true (.t 1), some (6, true)⟩,⟨some 8, .call .deep (.v (.clo F.hallmarkref09_Bare [] [])) [.t 7], some (6, true)⟩,⟨some 9, .pick (.t 6) (.t 8) (.v (.bool false)),none⟩,⟨some 2, .asg (.t 9),none⟩]
def body : AC := .seq (.reg r0 [1]) (.seq (.reg r1 [2]) (.ret))
def fn : AFun := ⟨[.val], 10, [.tmp 2], [], body⟩
end hallmarkref09_Never
namespace hallmarkref09_object
def r0 : List AO := [⟨some 1, .box (.t 0),none⟩,⟨some 2, .asg (.v (.bool false)),none⟩]
def r1 : List AO := [⟨some 4, .fadr 0 (.t 1),none⟩,⟨some 5, .load 1 false (.t 4),none⟩,⟨some 6, .len false (.t 5),none⟩,⟨some 7, .fadr 1 (.t 1),none⟩,⟨some 8, .load 1 false (.t 7),none⟩,⟨some 9, .len false (.t 8),none⟩,⟨some 10, .bin .neq (.t 6) (.t 9),none⟩,⟨some 11, .mv (.t 10),none⟩,⟨some 12, .fadr 0 (.t 1), some (11, false)⟩,⟨some 13, .load 1 false (.t 12), some (11, false)⟩,⟨some 14, .len false (.t 13), some (11, false)⟩,⟨some 15, .fadr 2 (.t 1), some (11, false)⟩,⟨some 16, .load 1 false (.t 15), some (11, false)⟩,⟨some 17, .len false (.t 16), some (11, false)⟩,⟨some 18, .bin .neq (.t 14) (.t 17), some (11, false)⟩,⟨some 19, .pick (.t 11) (.v (.bool true)) (.t 18),none⟩,⟨some 20, .mv (.t 19),none⟩,⟨some 21, .fadr 0 (.t 1), some (20, false)⟩,⟨some 22, .load 1 false (.t 21), some (20, false)⟩,⟨some 23, .call .deep (.v (.clo F.hallmarkref03_Rise [] [])) [.t 22], some (20, false)⟩,⟨some 24, .un .not (.t 23), some (20, false)⟩,⟨some 25, .pick (.t 20) (.v (.bool true)) (.t 24),none⟩,⟨some 26, .mv (.t 25),none⟩,⟨some 27, .fadr 3 (.t 1), some (26, false)⟩,⟨some 28, .load 9 true (.t 27), some (26, false)⟩,⟨some 29, .call .deep (.v (.clo F.hallmarkref09_Formed [] [])) [.t 28], some (26, false)⟩,⟨some 30, .un .not (.t 29), some (26, false)⟩,⟨some 31, .pick (.t 26) (.v (.bool true)) (.t 30),none⟩]
def r2 : List AO := [⟨some 2, .asg (.v (.bool false)),none⟩]
def r3 : List AO := [⟨some 3, .asg (.v (.int .i64 0)),none⟩]
def r4 : List AO := [⟨some 32, .mv (.t 3),none⟩,⟨some 33, .fadr 1 (.t 1),none⟩,⟨some 34, .load 1 false (.t 33),none⟩,⟨some 35, .len false (.t 34),none⟩,⟨some 36, .bin .lss (.t 32) (.t 35),none⟩]
def r6 : List AO := [⟨some 39, .fadr 1 (.t 1),none⟩,⟨some 40, .load 1 false (.t 39),none⟩,⟨some 41, .mv (.t 3),none⟩,⟨some 42, .iadr 9 (.t 40) (.t 41),none⟩,⟨some 43, .load 9 true (.t 42),none⟩,⟨some 44, .call .deep (.v (.clo F.hallmarkref09_Formed [] [])) [.t 43],none⟩,⟨some 45, .un .not (.t 44),none⟩,⟨some 46, .mv (.t 45),none⟩,⟨some 47, .fadr 2 (.t 1), some (46, false)⟩,⟨some 48, .load 1 false (.t 47), some (46, false)⟩,⟨some 49, .mv (.t 3), some (46, false)⟩,⟨some 50, .iadr 1 (.t 48) (.t 49), some (46, false)⟩,⟨some 51, .load 1 false (.t 50), some (46, false)⟩,⟨some 52, .mv (.t 51), some (46, false)⟩,⟨some 53, .fadr 1 (.t 1), some (52, true)⟩,⟨some 54, .load 1 false (.t 53), some (52, true)⟩,⟨some 55, .mv (.t 3), some (52, true)⟩,⟨some 56, .iadr 9 (.t 54) (.t 55), some (52, true)⟩,⟨some 57, .load 9 true (.t 56), some (52, true)⟩,⟨some 58, .call .deep (.v (.clo F.hallmarkref09_Never [] [])) [.t 57], some (52, true)⟩,⟨some 59, .pick (.t 52) (.t 58) (.v (.bool false)), some (46, false)⟩,⟨some 60, .pick (.t 46) (.v (.bool true)) (.t 59),none⟩]
def r7 : List AO := [⟨some 2, .asg (.v (.bool false)),none⟩]
def r5 : List AO := [⟨some 37, .mv (.t 3),none⟩,⟨some 38, .bin .add (.t 37) (.v (.int .i64 1)),none⟩,⟨some 3, .asg (.t 38),none⟩]
def l1 : AC := .seq (.seq (.reg r4 [1, 3, 36]) (.cond (.t 36) (.skip) (.exit 0))) (.seq (.block 1 (.seq (.reg r6 [1, 3, 60]) (.cond (.t 60) (.seq (.reg r7 [2]) (.ret)) (.skip)))) (.reg r5 [1, 3]))
def r8 : List AO := [⟨some 2, .asg (.v (.bool true)),none⟩]
def body : AC := .seq (.reg r0 [1]) (.seq (.seq (.reg r1 [1, 31]) (.cond (.t 31) (.seq (.reg r2 [2]) (.ret)) (.skip))) (.seq (.seq (.reg r3 [1, 3]) (.block 0 (.loop [1, 3] l1))) (.seq (.reg r8 [2]) (.ret))))
def fn : AFun := ⟨[.val], 61, [.tmp 2], [], body⟩
end hallmarkref09_object
namespace hallmarkref09_In
def r0 : List AO := [⟨some 2, .box (.t 0),none⟩,⟨some 3, .box (.t 1),none⟩,⟨some 4, .asg (.v (.bool false)),none⟩]
def r1 : List AO := [⟨some 7, .fadr 0 (.t 3),none⟩,⟨some 8, .load 1 false (.t 7),none⟩]
def r2 : List AO := [⟨some 4, .asg (.v (.bool true)),none⟩]
def r3 : List AO := [⟨some 9, .fadr 0 (.t 2),none⟩,⟨some 10, .load 1 false (.t 9),none⟩,⟨some 11, .bin .eql (.t 10) (.v (.int .i64 0)),none⟩]
def r4 : List AO := [⟨some 12, .fadr 1 (.t 3),none⟩,⟨some 13, .load 1 false (.t 12),none⟩,⟨some 4, .asg (.t 13),none⟩]
def r5 : List AO := [⟨some 14, .fadr 0 (.t 2),none⟩,⟨some 15, .load 1 false (.t 14),none⟩,⟨some 16, .bin .eql (.t 15) (.v (.int .i64 1)),none⟩]
def r6 : List AO := [⟨some 17, .fadr 2 (.t 3),none⟩,⟨some 18, .load 1 false (.t 17),none⟩,⟨some 4, .asg (.t 18),none⟩]
def r7 : List AO := [⟨some 19, .fadr 0 (.t 2),none⟩,⟨some 20, .load 1 false (.t 19),none⟩,⟨some 21, .bin .eql (.t 20) (.v (.int .i64 2)),none⟩]
def r8 : List AO := [⟨some 22, .fadr 3 (.t 3),none⟩,⟨some 23, .load 1 false (.t 22),none⟩,⟨some 4, .asg (.t 23),none⟩]
def r9 : List AO := [⟨some 24, .fadr 0 (.t 2),none⟩,⟨some 25, .load 1 false (.t 24),none⟩,⟨some 26, .bin .eql (.t 25) (.v (.int .i64 3)),none⟩]
def r10 : List Ph := [.bag false [] [37] [(0, ⟨some 27, .fadr 4 (.t 3),none⟩),(1, ⟨some 28, .load 1 false (.t 27),none⟩),(2, ⟨some 29, .len false (.t 28),none⟩),(3, ⟨some 30, .bin .gtr (.t 29) (.v (.int .i64 0)),none⟩),(4, ⟨some 31, .mv (.t 30),none⟩),(5, ⟨some 32, .fadr 1 (.t 2), some (31, true)⟩),(6, ⟨some 33, .load 1 false (.t 32), some (31, true)⟩),(7, ⟨some 34, .fadr 4 (.t 3), some (31, true)⟩),(8, ⟨some 35, .load 1 false (.t 34), some (31, true)⟩),(9, ⟨some 36, .iadr 2 (.t 35) (.v (.int .i64 0)), some (31, true)⟩),(10, ⟨some 37, .load 2 true (.t 36), some (31, true)⟩),(11, ⟨some 38, .call .deep (.v (.clo F.hallmarkref09_InSpan [] [])) [.t 33, .t 37], some (31, true)⟩),(12, ⟨some 39, .pick (.t 31) (.t 38) (.v (.bool false)),none⟩),(13, ⟨some 4, .asg (.t 39),none⟩)]]
def r11 : List AO := [⟨some 40, .fadr 0 (.t 2),none⟩,⟨some 41, .load 1 false (.t 40),none⟩,⟨some 42, .bin .eql (.t 41) (.v (.int .i64 4)),none⟩]
def r12 : List AO := [⟨some 43, .fadr 5 (.t 3),none⟩,⟨some 44, .load 1 false (.t 43),none⟩]
def r13 : List AO := [⟨some 4, .asg (.v (.bool true)),none⟩]
def r14 : List AO := [⟨some 5, .asg (.v (.int .i64 0)),none⟩]
def r15 : List AO := [⟨some 45, .mv (.t 5),none⟩,⟨some 46, .fadr 6 (.t 3),none⟩,⟨some 47, .load 1 false (.t 46),none⟩,⟨some 48, .len false (.t 47),none⟩,⟨some 49, .bin .lss (.t 45) (.t 48),none⟩]
def r17 : List Ph := [.bag false [] [5] [(0, ⟨some 52, .fadr 6 (.t 3),none⟩),(1, ⟨some 53, .load 1 false (.t 52),none⟩),(2, ⟨some 54, .mv (.t 5),none⟩),(3, ⟨some 55, .iadr 1 (.t 53) (.t 54),none⟩),(4, ⟨some 56, .load 1 false (.t 55),none⟩),(5, ⟨some 57, .fadr 2 (.t 2),none⟩),(6, ⟨some 58, .load 1 false (.t 57),none⟩),(7, ⟨some 59, .bin .eql (.t 56) (.t 58),none⟩)]]
def r18 : List AO := [⟨some 4, .asg (.v (.bool true)),none⟩]
def r16 : List AO := [⟨some 50, .mv (.t 5),none⟩,⟨some 51, .bin .add (.t 50) (.v (.int .i64 1)),none⟩,⟨some 5, .asg (.t 51),none⟩]
def l1 : AC := .seq (.seq (.reg r15 [2, 3, 5, 49]) (.cond (.t 49) (.skip) (.exit 0))) (.seq (.block 1 (.seq (.dreg r17 [2, 3, 5, 59]) (.cond (.t 59) (.seq (.reg r18 [4]) (.ret)) (.skip)))) (.reg r16 [2, 3, 5]))
def r19 : List AO := [⟨some 4, .asg (.v (.bool false)),none⟩]
def r20 : List AO := [⟨some 60, .fadr 0 (.t 2),none⟩,⟨some 61, .load 1 false (.t 60),none⟩,⟨some 62, .bin .eql (.t 61) (.v (.int .i64 5)),none⟩]
def r21 : List Ph := [.bag false [] [69, 73] [(0, ⟨some 63, .fadr 7 (.t 3),none⟩),(1, ⟨some 64, .load 1 false (.t 63),none⟩),(2, ⟨some 65, .len false (.t 64),none⟩),(3, ⟨some 66, .bin .gtr (.t 65) (.v (.int .i64 0)),none⟩),(4, ⟨some 67, .mv (.t 66),none⟩),(5, ⟨some 68, .fadr 3 (.t 2), some (67, true)⟩),(6, ⟨some 69, .load 1 false (.t 68), some (67, true)⟩),(7, ⟨some 70, .fadr 7 (.t 3), some (67, true)⟩),(8, ⟨some 71, .load 1 false (.t 70), some (67, true)⟩),(9, ⟨some 72, .iadr 11 (.t 71) (.v (.int .i64 0)), some (67, true)⟩),(10, ⟨some 73, .load 11 true (.t 72), some (67, true)⟩),(11, ⟨some 74, .call .deep (.v (.clo F.hallmarkref09_inArr [] [])) [.t 69, .t 73], some (67, true)⟩),(12, ⟨some 75, .pick (.t 67) (.t 74) (.v (.bool false)),none⟩),(13, ⟨some 4, .asg (.t 75),none⟩)]]
def r22 : List AO := [⟨some 6, .asg (.v (.int .i64 0)),none⟩]
def r23 : List AO := [⟨some 76, .mv (.t 6),none⟩,⟨some 77, .fadr 8 (.t 3),none⟩,⟨some 78, .load 1 false (.t 77),none⟩,⟨some 79, .len false (.t 78),none⟩,⟨some 80, .bin .lss (.t 76) (.t 79),none⟩]
def r25 : List Ph := [.bag false [] [6, 83, 88] [(0, ⟨some 83, .load 5 true (.t 2),none⟩),(1, ⟨some 84, .fadr 8 (.t 3),none⟩),(2, ⟨some 85, .load 1 false (.t 84),none⟩),(3, ⟨some 86, .mv (.t 6),none⟩),(4, ⟨some 87, .iadr 12 (.t 85) (.t 86),none⟩),(5, ⟨some 88, .load 12 true (.t 87),none⟩),(6, ⟨some 89, .call .deep (.v (.clo F.hallmarkref09_InObj [] [])) [.t 83, .t 88],none⟩)]]
def r26 : List AO := [⟨some 4, .asg (.v (.bool true)),none⟩]
def r24 : List AO := [⟨some 81, .mv (.t 6),none⟩,⟨some 82, .bin .add (.t 81) (.v (.int .i64 1)),none⟩,⟨some 6, .asg (.t 82),none⟩]
def l2 : AC := .seq (.seq (.reg r23 [2, 3, 6, 80]) (.cond (.t 80) (.skip) (.exit 2))) (.seq (.block 3 (.seq (.dreg r25 [2, 3, 6, 89]) (.cond (.t 89) (.seq (.reg r26 [4]) (.ret)) (.skip)))) (.reg r24 [2, 3, 6]))
def r27 : List AO := [⟨some 4, .asg (.v (.bool false)),none⟩]
def body : AC := .seq (.reg r0 [2, 3]) (.seq (.seq (.reg r1 [2, 3, 8]) (.cond (.t 8) (.seq (.reg r2 [4]) (.ret)) (.skip))) (.seq (.seq (.reg r3 [2, 3, 11]) (.cond (.t 11) (.seq (.reg r4 [4]) (.ret)) (.skip))) (.seq (.seq (.reg r5 [2, 3, 16]) (.cond (.t 16) (.seq (.reg r6 [4]) (.ret)) (.skip))) (.seq (.seq (.reg r7 [2, 3, 21]) (.cond (.t 21) (.seq (.reg r8 [4]) (.ret)) (.skip))) (.seq (.seq (.reg r9 [2, 3, 26]) (.cond (.t 26) (.seq (.dreg r10 [4]) (.ret)) (.skip))) (.seq (.seq (.reg r11 [2, 3, 42]) (.cond (.t 42) (.seq (.seq (.reg r12 [2, 3, 44]) (.cond (.t 44) (.seq (.reg r13 [4]) (.ret)) (.skip))) (.seq (.seq (.reg r14 [2, 3, 5]) (.block 0 (.loop [2, 3, 5] l1))) (.seq (.reg r19 [4]) (.ret)))) (.skip))) (.seq (.seq (.reg r20 [2, 3, 62]) (.cond (.t 62) (.seq (.dreg r21 [4]) (.ret)) (.skip))) (.seq (.seq (.reg r22 [2, 3, 6]) (.block 2 (.loop [2, 3, 6] l2))) (.seq (.reg r27 [4]) (.ret))))))))))
def fn : AFun := ⟨[.val, .val], 90, [.tmp 4], [], body⟩
end hallmarkref09_In
namespace shape_OfKinds
def r0 : List AO := [⟨some 1, .box (.t 0),none⟩,⟨some 2, .alloc [.av (.bool false), .av (.bool false), .av (.bool false), .av (.bool false), .own 2 [], .av (.bool false), .own 1 [], .own 11 [], .own 12 []],none⟩]
def r1 : List AO := [⟨some 5, .load 1 false (.t 1),none⟩,⟨some 6, .bin .and (.t 5) (.v (.int .u8 127)),none⟩,⟨some 7, .bin .eql (.t 6) (.v (.int .u8 127)),none⟩]
def r2 : List AO := [⟨some 8, .call .deep (.v (.clo F.shape_Every [] [])) [],none⟩,⟨none, .store 9 (.t 2) (.t 8),none⟩]
def r3 : List AO := [⟨some 9, .mkf F.shape_OfKinds_S1 [] [.t 1],none⟩,⟨some 3, .asg (.t 9),none⟩]
def r4 : List AO := [⟨some 10, .mv (.t 3),none⟩,⟨some 11, .call .deep (.t 10) [.v (.int .i64 0)],none⟩,⟨some 12, .mv (.t 3),none⟩,⟨some 13, .call .deep (.t 12) [.v (.int .i64 1)],none⟩,⟨some 14, .mv (.t 3),none⟩,⟨some 15, .call .deep (.t 14) [.v (.int .i64 2)],none⟩,⟨some 16, .mv (.t 3),none⟩,⟨some 17, .call .deep (.t 16) [.v (.int .i64 4)],none⟩,⟨some 18, .build [.av (.bool false), .av (.bool false), .av (.bool false), .av (.bool false), .own 2 [], .av (.bool false), .own 1 [], .own 11 [], .own 12 []] [(1, 1, .t 11), (2, 1, .t 13), (3, 1, .t 15), (5, 1, .t 17)],none⟩,⟨some 4, .alloc [.av (.bool false), .av (.bool false), .av (.bool false), .av (.bool false), .own 2 [], .av (.bool false), .own 1 [], .own 11 [], .own 12 []],none⟩,⟨none, .store 9 (.t 4) (.t 18),none⟩]
def r5 : List AO := [⟨some 19, .mv (.t 3),none⟩,⟨some 20, .call .deep (.t 19) [.v (.int .i64 3)],none⟩]
def r6 : List AO := [⟨some 21, .build [.av (.str []), .av (.str [])] [],none⟩,⟨some 22, .buildS 1 2 [.av (.str []), .av (.str [])] [(0, 2, .t 21)],none⟩,⟨some 23, .fadr 4 (.t 4),none⟩,⟨none, .store 1 (.t 23) (.t 22),none⟩]
def r7 : List AO := [⟨some 24, .mv (.t 3),none⟩,⟨some 25, .call .deep (.t 24) [.v (.int .i64 5)],none⟩]
def r8 : List AO := [⟨some 26, .call .deep (.v (.clo F.shape_Every [] [])) [],none⟩,⟨some 27, .build [.av (.bool false), .av (.bool false), .av (.bool false), .av (.bool false), .own 2 [], .av (.bool false), .own 1 [], .own 11 [], .own 12 [], .av (.int .i64 0), .av (.int .i64 0)] [(0, 9, .t 26), (10, 1, .v (.int .i64 (-1)))],none⟩,⟨some 28, .buildS 1 11 [.av (.bool false), .av (.bool false), .av (.bool false), .av (.bool false), .own 2 [], .av (.bool false), .own 1 [], .own 11 [], .own 12 [], .av (.int .i64 0), .av (.int .i64 0)] [(0, 11, .t 27)],none⟩,⟨some 29, .fadr 7 (.t 4),none⟩,⟨none, .store 1 (.t 29) (.t 28),none⟩]
def r9 : List AO := [⟨some 30, .mv (.t 3),none⟩,⟨some 31, .call .deep (.t 30) [.v (.int .i64 6)],none⟩]
def r10 : List AO := [⟨some 32, .call .deep (.v (.clo F.shape_Every [] [])) [],none⟩,⟨some 33, .build [.own 1 [], .own 9 [], .own 1 [], .av (.bool false), .av (.bool false), .av (.bool false), .av (.bool false), .own 2 [], .av (.bool false), .own 1 [], .own 11 [], .own 12 []] [(3, 9, .t 32)],none⟩,⟨some 34, .buildS 1 12 [.own 1 [], .own 9 [], .own 1 [], .av (.bool false), .av (.bool false), .av (.bool false), .av (.bool false), .own 2 [], .av (.bool false), .own 1 [], .own 11 [], .own 12 []] [(0, 12, .t 33)],none⟩,⟨some 35, .fadr 8 (.t 4),none⟩,⟨none, .store 1 (.t 35) (.t 34),none⟩]
def r11 : List AO := [⟨some 36, .take 9 true (.t 4),none⟩,⟨none, .store 9 (.t 2) (.t 36),none⟩]
def body : AC := .seq (.reg r0 [1, 2]) (.seq (.seq (.reg r1 [1, 2, 7]) (.cond (.t 7) (.seq (.reg r2 [2]) (.ret)) (.skip))) (.seq (.reg r3 [2, 3]) (.seq (.reg r4 [2, 3, 4]) (.seq (.seq (.reg r5 [2, 3, 4, 20]) (.cond (.t 20) (.reg r6 [2, 3, 4]) (.skip))) (.seq (.seq (.reg r7 [2, 3, 4, 25]) (.cond (.t 25) (.reg r8 [2, 3, 4]) (.skip))) (.seq (.seq (.reg r9 [2, 4, 31]) (.cond (.t 31) (.reg r10 [2, 4]) (.skip))) (.seq (.reg r11 [2]) (.ret))))))))
def fn : AFun := ⟨[.val], 37, [.cell 2 9 true], [], body⟩
end shape_OfKinds
namespace shape_Kinds
def r0 : List AO := [⟨some 1, .box (.t 0),none⟩,⟨some 2, .asg (.v (.int .u8 0)),none⟩]
def r1 : List AO := [⟨some 6, .fadr 0 (.t 1),none⟩,⟨some 7, .load 1 false (.t 6),none⟩]
def r2 : List AO := [⟨some 2, .asg (.v (.int .u8 127)),none⟩]
def r3 : List AO := [⟨some 3, .asg (.v (.int .u8 0)),none⟩]
def r4 : List AO := [⟨some 8, .fadr 1 (.t 1),none⟩,⟨some 9, .load 1 false (.t 8),none⟩,⟨some 10, .fadr 2 (.t 1),none⟩,⟨some 11, .load 1 false (.t 10),none⟩,⟨some 12, .fadr 3 (.t 1),none⟩,⟨some 13, .load 1 false (.t 12),none⟩,⟨some 14, .fadr 4 (.t 1),none⟩,⟨some 15, .load 1 false (.t 14),none⟩,⟨some 16, .len false (.t 15),none⟩,⟨some 17, .bin .gtr (.t 16) (.v (.int .i64 0)),none⟩,⟨some 18, .fadr 5 (.t 1),none⟩,⟨some 19, .load 1 false (.t 18),none⟩,⟨some 20, .mv (.t 19),none⟩,⟨some 21, .fadr 6 (.t 1), some (20, false)⟩,⟨some 22, .load 1 false (.t 21), some (20, false)⟩,⟨some 23, .len false (.t 22), some (20, false)⟩,⟨some 24, .bin .gtr (.t 23) (.v (.int .i64 0)), some (20, false)⟩,⟨some 25, .pick (.t 20) (.v (.bool true)) (.t 24),none⟩,⟨some 26, .fadr 7 (.t 1),none⟩,⟨some 27, .load 1 false (.t 26),none⟩,⟨some 28, .len false (.t 27),none⟩,⟨some 29, .bin .gtr (.t 28) (.v (.int .i64 0)),none⟩,⟨some 30, .fadr 8 (.t 1),none⟩,⟨some 31, .take 1 false (.t 30),none⟩,⟨some 32, .len false (.t 31),none⟩,⟨some 33, .bin .gtr (.t 32) (.v (.int .i64 0)),none⟩,⟨some 34, .build [.av (.bool false), .av (.bool false), .av (.bool false), .av (.bool false), .av (.bool false), .av (.bool false), .av (.bool false)] [(0, 1, .t 9), (1, 1, .t 11), (2, 1, .t 13), (3, 1, .t 17), (4, 1, .t 25), (5, 1, .t 29), (6, 1, .t 33)],none⟩,⟨some 35, .mv (.v (.int .i64 0)),none⟩]
def r5 : List AO := [⟨some 36, .bin .lss (.t 35) (.v (.int .i64 7)),none⟩]
def r6 : List AO := [⟨some 37, .mv (.t 35),none⟩,⟨some 38, .idxA 7 1 false (.t 34) (.t 35),none⟩,⟨some 4, .asg (.t 37),none⟩,⟨some 5, .asg (.t 38),none⟩]
def r7 : List AO := [⟨some 39, .mv (.t 5),none⟩]
def r8 : List AO := [⟨some 40, .mv (.t 3),none⟩,⟨some 41, .mv (.t 4),none⟩,⟨some 42, .bin .shl (.v (.int .u8 1)) (.t 41),none⟩,⟨some 43, .bin .or (.t 40) (.t 42),none⟩,⟨some 3, .asg (.t 43),none⟩]
def r9 : List AO := [⟨some 44, .bin .add (.t 35) (.v (.int .i64 1)),none⟩,⟨some 35, .mv (.t 44),none⟩]
def l1 : AC := .seq (.reg r5 [3, 34, 35, 36]) (.seq (.cond (.t 36) (.skip) (.exit 0)) (.seq (.block 1 (.seq (.reg r6 [3, 4, 5, 34, 35]) (.seq (.reg r7 [3, 4, 34, 35, 39]) (.cond (.t 39) (.reg r8 [3, 34, 35]) (.skip))))) (.reg r9 [3, 34, 35])))
def r10 : List AO := [⟨some 45, .mv (.t 3),none⟩,⟨some 2, .asg (.t 45),none⟩]
def body : AC := .seq (.reg r0 [1]) (.seq (.seq (.reg r1 [1, 7]) (.cond (.t 7) (.seq (.reg r2 [2]) (.ret)) (.skip))) (.seq (.reg r3 [1, 3]) (.seq (.seq (.reg r4 [3, 34, 35]) (.block 0 (.loop [3, 34, 35] l1))) (.seq (.reg r10 [2]) (.ret)))))
def fn : AFun := ⟨[.val], 46, [.tmp 2], [], body⟩
end shape_Kinds
namespace shape_Every
def r0 : List AO := [⟨some 0, .alloc [.av (.bool false), .av (.bool false), .av (.bool false), .av (.bool false), .own 2 [], .av (.bool false), .own 1 [], .own 11 [], .own 12 []],none⟩]
def r1 : List AO := [⟨some 1, .build [.av (.bool false), .av (.bool false), .av (.bool false), .av (.bool false), .own 2 [], .av (.bool false), .own 1 [], .own 11 [], .own 12 []] [(0, 1, .v (.bool true))],none⟩,⟨none, .store 9 (.t 0) (.t 1),none⟩]
def body : AC := .seq (.reg r0 [0]) (.seq (.reg r1 [0]) (.ret))
def fn : AFun := ⟨[], 2, [.cell 0 9 true], [], body⟩
end shape_Every
namespace hallmarkref09_InSpan
def r0 : List AO := [⟨some 3, .box (.t 1),none⟩,⟨some 4, .asg (.v (.bool false)),none⟩]
def r1 : List AO := [⟨some 5, .fadr 0 (.t 3),none⟩,⟨some 6, .load 1 false (.t 5),none⟩,⟨some 7, .bin .neq (.t 6) (.v (.str [])),none⟩,⟨some 8, .mv (.t 7),none⟩,⟨some 9, .mv (.t 0), some (8, true)⟩,⟨some 10, .fadr 0 (.t 3), some (8, true)⟩,⟨some 11, .load 1 false (.t 10), some (8, true)⟩,⟨some 12, .call .deep (.v (.clo F.hallmarkref03_Numbers [] [])) [.t 9, .t 11], some (8, true)⟩,⟨some 13, .bin .lss (.t 12) (.v (.int .i64 0)), some (8, true)⟩,⟨some 14, .pick (.t 8) (.t 13) (.v (.bool false)),none⟩]
def r2 : List AO := [⟨some 4, .asg (.v (.bool false)),none⟩]
def r3 : List AO := [⟨some 15, .fadr 1 (.t 3),none⟩,⟨some 16, .load 1 false (.t 15),none⟩,⟨some 17, .bin .eql (.t 16) (.v (.str [])),none⟩,⟨some 18, .mv (.t 17),none⟩,⟨some 19, .mv (.t 0), some (18, false)⟩,⟨some 20, .fadr 1 (.t 3), some (18, false)⟩,⟨some 21, .load 1 false (.t 20), some (18, false)⟩,⟨some 22, .call .deep (.v (.clo F.hallmarkref03_Numbers [] [])) [.t 19, .t 21], some (18, false)⟩,⟨some 23, .bin .leq (.t 22) (.v (.int .i64 0)), some (18, false)⟩,⟨some 24, .pick (.t 18) (.v (.bool true)) (.t 23),none⟩,⟨some 4, .asg (.t 24),none⟩]
def body : AC := .seq (.reg r0 [0, 3]) (.seq (.seq (.reg r1 [0, 3, 14]) (.cond (.t 14) (.seq (.reg r2 [4]) (.ret)) (.skip))) (.seq (.reg r3 [4]) (.ret)))
def fn : AFun := ⟨[.val, .val], 25, [.tmp 4], [], body⟩
end hallmarkref09_InSpan
namespace hallmarkref09_inArr
def r0 : List AO := [⟨some 3, .box (.t 1),none⟩,⟨some 4, .asg (.v (.bool false)),none⟩]
def r1 : List AO := [⟨some 6, .mv (.t 0),none⟩,⟨some 7, .len false (.t 6),none⟩,⟨some 8, .fadr 9 (.t 3),none⟩,⟨some 9, .load 1 false (.t 8),none⟩,⟨some 10, .bin .lss (.t 7) (.t 9),none⟩,⟨some 11, .mv (.t 10),none⟩,⟨some 12, .fadr 10 (.t 3), some (11, false)⟩,⟨some 13, .load 1 false (.t 12), some (11, false)⟩,⟨some 14, .bin .geq (.t 13) (.v (.int .i64 0)), some (11, false)⟩,⟨some 15, .mv (.t 14), some (11, false)⟩,⟨some 16, .mv (.t 0), some (15, true)⟩,⟨some 17, .len false (.t 16), some (15, true)⟩,⟨some 18, .fadr 10 (.t 3), some (15, true)⟩,⟨some 19, .load 1 false (.t 18), some (15, true)⟩,⟨some 20, .bin .gtr (.t 17) (.t 19), some (15, true)⟩,⟨some 21, .pick (.t 15) (.t 20) (.v (.bool false)), some (11, false)⟩,⟨some 22, .pick (.t 11) (.v (.bool true)) (.t 21),none⟩]
def r2 : List AO := [⟨some 4, .asg (.v (.bool false)),none⟩]
def r3 : List AO := [⟨some 5, .asg (.v (.int .i64 0)),none⟩]
def r4 : List AO := [⟨some 23, .mv (.t 5),none⟩,⟨some 24, .mv (.t 0),none⟩,⟨some 25, .len false (.t 24),none⟩,⟨some 26, .bin .lss (.t 23) (.t 25),none⟩]
def r6 : List Ph := [.bag false [] [0, 5, 32, 34] [(0, ⟨some 29, .mv (.t 0),none⟩),(1, ⟨some 30, .mv (.t 5),none⟩),(2, ⟨some 31, .iadr 5 (.t 29) (.t 30),none⟩),(3, ⟨some 32, .load 5 true (.t 31),none⟩),(4, ⟨some 33, .fadr 0 (.t 3),none⟩),(5, ⟨some 34, .load 9 true (.t 33),none⟩),(6, ⟨some 35, .call .deep (.v (.clo F.hallmarkref09_In [] [])) [.t 32, .t 34],none⟩),(7, ⟨some 36, .un .not (.t 35),none⟩)]]
def r7 : List AO := [⟨some 4, .asg (.v (.bool false)),none⟩]
def r5 : List AO := [⟨some 27, .mv (.t 5),none⟩,⟨some 28, .bin .add (.t 27) (.v (.int .i64 1)),none⟩,⟨some 5, .asg (.t 28),none⟩]
def l1 : AC := .seq (.seq (.reg r4 [0, 3, 5, 26]) (.cond (.t 26) (.skip) (.exit 0))) (.seq (.block 1 (.seq (.dreg r6 [0, 3, 5, 36]) (.cond (.t 36) (.seq (.reg r7 [4]) (.ret)) (.skip)))) (.reg r5 [0, 3, 5]))
def r8 : List AO := [⟨some 4, .asg (.v (.bool true)),none⟩]
def body : AC := .seq (.reg r0 [0, 3]) (.seq (.seq (.reg r1 [0, 3, 22]) (.cond (.t 22) (.seq (.reg r2 [4]) (.ret)) (.skip))) (.seq (.seq (.reg r3 [0, 3, 5]) (.block 0 (.loop [0, 3, 5] l1))) (.seq (.reg r8 [4]) (.ret))))
def fn : AFun := ⟨[.val, .val], 37, [.tmp 4], [], body⟩
end hallmarkref09_inArr
namespace hallmarkref09_InObj
def r0 : List AO := [⟨some 2, .box (.t 0),none⟩,⟨some 3, .box (.t 1),none⟩,⟨some 4, .asg (.v (.bool false)),none⟩]
def r1 : List AO := [⟨some 5, .asg (.v (.int .i64 0)),none⟩]
def r2 : List AO := [⟨some 9, .mv (.t 5),none⟩,⟨some 10, .fadr 0 (.t 3),none⟩,⟨some 11, .load 1 false (.t 10),none⟩,⟨some 12, .len false (.t 11),none⟩,⟨some 13, .bin .lss (.t 9) (.t 12),none⟩]
def r4 : List Ph := [.bag false [9] [5, 17, 23] [(0, ⟨some 17, .load 5 true (.t 2),none⟩),(1, ⟨some 18, .fadr 0 (.t 3),none⟩),(2, ⟨some 19, .load 1 false (.t 18),none⟩),(3, ⟨some 20, .mv (.t 5),none⟩),(4, ⟨some 21, .iadr 1 (.t 19) (.t 20),none⟩),(5, ⟨some 22, .load 1 false (.t 21),none⟩),(6, ⟨some 23, .call .deep (.v (.clo F.hallmarkref03_Get [] [])) [.t 17, .t 22],none⟩),(7, ⟨some 16, .mv (.t 23),none⟩),(8, ⟨some 24, .ext (.t 16) 0,none⟩),(9, ⟨some 25, .ext (.t 16) 1,none⟩),(10, ⟨some 6, .alloc [.av (.int .i64 0), .av (.str []), .av (.str []), .own 5 [], .own 1 []],none⟩)],.one 11 ⟨none, .store 5 (.t 6) (.t 24),none⟩,.one 12 ⟨some 7, .asg (.t 25),none⟩]
def r5 : List Ph := [.bag false [] [28, 33] [(0, ⟨some 26, .mv (.t 7),none⟩),(1, ⟨some 27, .mv (.t 26),none⟩),(2, ⟨some 28, .load 5 true (.t 6), some (27, true)⟩),(3, ⟨some 29, .fadr 1 (.t 3), some (27, true)⟩),(4, ⟨some 30, .load 1 false (.t 29), some (27, true)⟩),(5, ⟨some 31, .mv (.t 5), some (27, true)⟩),(6, ⟨some 32, .iadr 9 (.t 30) (.t 31), some (27, true)⟩),(7, ⟨some 33, .load 9 true (.t 32), some (27, true)⟩),(8, ⟨some 34, .call .deep (.v (.clo F.hallmarkref09_In [] [])) [.t 28, .t 33], some (27, true)⟩),(9, ⟨some 35, .un .not (.t 34), some (27, true)⟩),(10, ⟨some 36, .pick (.t 27) (.t 35) (.v (.bool false)),none⟩),(11, ⟨some 37, .mv (.t 36),none⟩),(12, ⟨some 38, .mv (.t 7), some (37, false)⟩),(13, ⟨some 39, .un .not (.t 38), some (37, false)⟩),(14, ⟨some 40, .mv (.t 39), some (37, false)⟩),(15, ⟨some 41, .fadr 2 (.t 3), some (40, true)⟩),(16, ⟨some 42, .load 1 false (.t 41), some (40, true)⟩),(17, ⟨some 43, .mv (.t 5), some (40, true)⟩),(18, ⟨some 44, .iadr 1 (.t 42) (.t 43), some (40, true)⟩),(19, ⟨some 45, .load 1 false (.t 44), some (40, true)⟩),(20, ⟨some 46, .pick (.t 40) (.t 45) (.v (.bool false)), some (37, false)⟩),(21, ⟨some 47, .pick (.t 37) (.v (.bool true)) (.t 46),none⟩)]]
def r6 : List AO := [⟨some 4, .asg (.v (.bool false)),none⟩]
def r3 : List AO := [⟨some 14, .mv (.t 5),none⟩,⟨some 15, .bin .add (.t 14) (.v (.int .i64 1)),none⟩,⟨some 5, .asg (.t 15),none⟩]
def l1 : AC := .seq (.seq (.reg r2 [2, 3, 5, 13]) (.cond (.t 13) (.skip) (.exit 0))) (.seq (.block 1 (.seq (.dreg r4 [2, 3, 5, 6, 7]) (.seq (.dreg r5 [2, 3, 5, 47]) (.cond (.t 47) (.seq (.reg r6 [4]) (.ret)) (.skip))))) (.reg r3 [2, 3, 5]))
def r7 : List AO := [⟨some 8, .asg (.v (.int .i64 0)),none⟩]
def r8 : List AO := [⟨some 48, .mv (.t 8),none⟩,⟨some 49, .fadr 4 (.t 2),none⟩,⟨some 50, .load 1 false (.t 49),none⟩,⟨some 51, .len false (.t 50),none⟩,⟨some 52, .bin .lss (.t 48) (.t 51),none⟩]
def r10 : List Ph := [.bag false [] [56, 69, 71] [(0, ⟨some 55, .fadr 0 (.t 3),none⟩),(1, ⟨some 56, .load 1 false (.t 55),none⟩),(2, ⟨some 57, .fadr 4 (.t 2),none⟩),(3, ⟨some 58, .load 1 false (.t 57),none⟩),(4, ⟨some 59, .mv (.t 8),none⟩),(5, ⟨some 60, .iadr 1 (.t 58) (.t 59),none⟩),(6, ⟨some 61, .load 1 false (.t 60),none⟩),(7, ⟨some 62, .call .deep (.v (.clo F.hallmarkref09_Has [] [])) [.t 56, .t 61],none⟩),(8, ⟨some 63, .un .not (.t 62),none⟩),(9, ⟨some 64, .mv (.t 63),none⟩),(10, ⟨some 65, .fadr 3 (.t 2), some (64, true)⟩),(11, ⟨some 66, .load 1 false (.t 65), some (64, true)⟩),(12, ⟨some 67, .mv (.t 8), some (64, true)⟩),(13, ⟨some 68, .iadr 5 (.t 66) (.t 67), some (64, true)⟩),(14, ⟨some 69, .load 5 true (.t 68), some (64, true)⟩),(15, ⟨some 70, .fadr 3 (.t 3), some (64, true)⟩),(16, ⟨some 71, .load 9 true (.t 70), some (64, true)⟩),(17, ⟨some 72, .call .deep (.v (.clo F.hallmarkref09_In [] [])) [.t 69, .t 71], some (64, true)⟩),(18, ⟨some 73, .un .not (.t 72), some (64, true)⟩),(19, ⟨some 74, .pick (.t 64) (.t 73) (.v (.bool false)),none⟩)]]
def r11 : List AO := [⟨some 4, .asg (.v (.bool false)),none⟩]
def r9 : List AO := [⟨some 53, .mv (.t 8),none⟩,⟨some 54, .bin .add (.t 53) (.v (.int .i64 1)),none⟩,⟨some 8, .asg (.t 54),none⟩]
def l2 : AC := .seq (.seq (.reg r8 [2, 3, 8, 52]) (.cond (.t 52) (.skip) (.exit 2))) (.seq (.block 3 (.seq (.dreg r10 [2, 3, 8, 74]) (.cond (.t 74) (.seq (.reg r11 [4]) (.ret)) (.skip)))) (.reg r9 [2, 3, 8]))
def r12 : List AO := [⟨some 4, .asg (.v (.bool true)),none⟩]
def body : AC := .seq (.reg r0 [2, 3]) (.seq (.seq (.reg r1 [2, 3, 5]) (.block 0 (.loop [2, 3, 5] l1))) (.seq (.seq (.reg r7 [2, 3, 8]) (.block 2 (.loop [2, 3, 8] l2))) (.seq (.reg r12 [4]) (.ret))))
def fn : AFun := ⟨[.val, .val], 75, [.tmp 4], [], body⟩
end hallmarkref09_InObj
namespace shape_OfKinds_S1
def r0 : List AO := [⟨some 3, .asg (.v (.bool false)),none⟩]
def r1 : List AO := [⟨some 4, .load 1 false (.t 1),none⟩,⟨some 5, .mv (.t 0),none⟩,⟨some 6, .bin .shr (.t 4) (.t 5),none⟩,⟨some 7, .bin .and (.t 6) (.v (.int .u8 1)),none⟩,⟨some 8, .bin .eql (.t 7) (.v (.int .u8 1)),none⟩,⟨some 3, .asg (.t 8),none⟩]
def body : AC := .seq (.reg r0 [0, 1]) (.seq (.reg r1 [3]) (.ret))
def fn : AFun := ⟨[.val, .val], 9, [.tmp 3], [], body⟩
end shape_OfKinds_S1
namespace hallmarkref09_Has
def r0 : List AO := [⟨some 4, .asg (.v (.bool false)),none⟩]
def r1 : List AO := [⟨some 5, .asg (.v (.int .i64 0)),none⟩]
def r2 : List AO := [⟨some 6, .mv (.t 5),none⟩,⟨some 7, .mv (.t 0),none⟩,⟨some 8, .len false (.t 7),none⟩,⟨some 9, .bin .lss (.t 6) (.t 8),none⟩]
def r4 : List AO := [⟨some 12, .mv (.t 0),none⟩,⟨some 13, .mv (.t 5),none⟩,⟨some 14, .iadr 1 (.t 12) (.t 13),none⟩,⟨some 15, .load 1 false (.t 14),none⟩,⟨some 16, .mv (.t 1),none⟩,⟨some 17, .bin .eql (.t 15) (.t 16),none⟩]
def r5 : List AO := [⟨some 4, .asg (.v (.bool true)),none⟩]
def r3 : List AO := [⟨some 10, .mv (.t 5),none⟩,⟨some 11, .bin .add (.t 10) (.v (.int .i64 1)),none⟩,⟨some 5, .asg (.t 11),none⟩]
def l1 : AC := .seq (.seq (.reg r2 [0, 1, 5, 9]) (.cond (.t 9) (.skip) (.exit 0))) (.seq (.block 1 (.seq (.reg r4 [0, 1, 5, 17]) (.cond (.t 17) (.seq (.reg r5 [4]) (.ret)) (.skip)))) (.reg r3 [0, 1, 5]))
def r6 : List AO := [⟨some 4, .asg (.v (.bool false)),none⟩]
def body : AC := .seq (.reg r0 [0, 1]) (.seq (.seq (.reg r1 [0, 1, 5]) (.block 0 (.loop [0, 1, 5] l1))) (.seq (.reg r6 [4]) (.ret)))
def fn : AFun := ⟨[.val, .val], 18, [.tmp 4], [], body⟩
end hallmarkref09_Has
namespace below_Span
def r0 : List AO := [⟨some 2, .box (.t 0),none⟩,⟨some 3, .box (.t 1),none⟩,⟨some 4, .asg (.v (.bool false)),none⟩]
def r1 : List AO := [⟨some 6, .load 2 true (.t 2),none⟩,⟨some 7, .call .deep (.v (.clo F.below_hollow [] [])) [.t 6],none⟩]
def r2 : List AO := [⟨some 4, .asg (.v (.bool true)),none⟩]
def r3 : List AO := [⟨some 8, .fadr 0 (.t 3),none⟩,⟨some 9, .load 1 false (.t 8),none⟩,⟨some 10, .bin .eql (.t 9) (.v (.str [])),none⟩,⟨some 11, .mv (.t 10),none⟩,⟨some 12, .fadr 0 (.t 2), some (11, false)⟩,⟨some 13, .load 1 false (.t 12), some (11, false)⟩,⟨some 14, .bin .neq (.t 13) (.v (.str [])), some (11, false)⟩,⟨some 15, .mv (.t 14), some (11, false)⟩,⟨some 16, .fadr 0 (.t 3), some (15, true)⟩,⟨some 17, .load 1 false (.t 16), some (15, true)⟩,⟨some 18, .fadr 0 (.t 2), some (15, true)⟩,⟨some 19, .load 1 false (.t 18), some (15, true)⟩,⟨some 20, .call .deep (.v (.clo F.below_worth [] [])) [.t 17, .t 19], some (15, true)⟩,⟨some 21, .bin .leq (.t 20) (.v (.int .i64 0)), some (15, true)⟩,⟨some 22, .pick (.t 15) (.t 21) (.v (.bool false)), some (11, false)⟩,⟨some 23, .pick (.t 11) (.v (.bool true)) (.t 22),none⟩,⟨some 5, .asg (.t 23),none⟩]
def r4 : List AO := [⟨some 24, .mv (.t 5),none⟩,⟨some 25, .mv (.t 24),none⟩,⟨some 26, .fadr 1 (.t 3), some (25, true)⟩,⟨some 27, .load 1 false (.t 26), some (25, true)⟩,⟨some 28, .bin .eql (.t 27) (.v (.str [])), some (25, true)⟩,⟨some 29, .mv (.t 28), some (25, true)⟩,⟨some 30, .fadr 1 (.t 2), some (29, false)⟩,⟨some 31, .load 1 false (.t 30), some (29, false)⟩,⟨some 32, .bin .neq (.t 31) (.v (.str [])), some (29, false)⟩,⟨some 33, .mv (.t 32), some (29, false)⟩,⟨some 34, .fadr 1 (.t 2), some (33, true)⟩,⟨some 35, .load 1 false (.t 34), some (33, true)⟩,⟨some 36, .fadr 1 (.t 3), some (33, true)⟩,⟨some 37, .load 1 false (.t 36), some (33, true)⟩,⟨some 38, .call .deep (.v (.clo F.below_worth [] [])) [.t 35, .t 37], some (33, true)⟩,⟨some 39, .bin .leq (.t 38) (.v (.int .i64 0)), some (33, true)⟩,⟨some 40, .pick (.t 33) (.t 39) (.v (.bool false)), some (29, false)⟩,⟨some 41, .pick (.t 29) (.v (.bool true)) (.t 40), some (25, true)⟩,⟨some 42, .pick (.t 25) (.t 41) (.v (.bool false)),none⟩,⟨some 4, .asg (.t 42),none⟩]
def body : AC := .seq (.reg r0 [2, 3]) (.seq (.seq (.reg r1 [2, 3, 7]) (.cond (.t 7) (.seq (.reg r2 [4]) (.ret)) (.skip))) (.seq (.reg r3 [2, 3, 5]) (.seq (.reg r4 [4]) (.ret))))
def fn : AFun := ⟨[.val, .val], 43, [.tmp 4], [], body⟩
end below_Span
namespace hallmarklaw12_bounds
def r0 : List AO := [⟨some 1, .box (.t 0),none⟩,⟨some 2, .asg (.v (.bool false)),none⟩]
def r1 : List AO := [⟨some 3, .fadr 0 (.t 1),none⟩,⟨some 4, .load 1 false (.t 3),none⟩,⟨some 5, .bin .eql (.t 4) (.v (.str [])),none⟩,⟨some 6, .mv (.t 5),none⟩,⟨some 7, .fadr 0 (.t 1), some (6, false)⟩,⟨some 8, .load 1 false (.t 7), some (6, false)⟩,⟨some 9, .call .deep (.v (.clo F.hallmarkref03_Number [] [])) [.t 8], some (6, false)⟩,⟨some 10, .pick (.t 6) (.v (.bool true)) (.t 9),none⟩,⟨some 11, .mv (.t 10),none⟩,⟨some 12, .fadr 1 (.t 1), some (11, true)⟩,⟨some 13, .load 1 false (.t 12), some (11, true)⟩,⟨some 14, .bin .eql (.t 13) (.v (.str [])), some (11, true)⟩,⟨some 15, .mv (.t 14), some (11, true)⟩,⟨some 16, .fadr 1 (.t 1), some (15, false)⟩,⟨some 17, .load 1 false (.t 16), some (15, false)⟩,⟨some 18, .call .deep (.v (.clo F.hallmarkref03_Number [] [])) [.t 17], some (15, false)⟩,⟨some 19, .pick (.t 15) (.v (.bool true)) (.t 18), some (11, true)⟩,⟨some 20, .pick (.t 11) (.t 19) (.v (.bool false)),none⟩,⟨some 2, .asg (.t 20),none⟩]
def body : AC := .seq (.reg r0 [1]) (.seq (.reg r1 [2]) (.ret))
def fn : AFun := ⟨[.val], 21, [.tmp 2], [], body⟩
end hallmarklaw12_bounds
namespace hallmarkref12_Span
def r0 : List AO := [⟨some 2, .box (.t 0),none⟩,⟨some 3, .box (.t 1),none⟩,⟨some 4, .asg (.v (.bool false)),none⟩]
def r1 : List AO := [⟨some 5, .load 2 true (.t 2),none⟩,⟨some 6, .call .deep (.v (.clo F.hallmarkref12_Hollow [] [])) [.t 5],none⟩]
def r2 : List AO := [⟨some 4, .asg (.v (.bool true)),none⟩]
def r3 : List AO := [⟨some 7, .fadr 0 (.t 3),none⟩,⟨some 8, .load 1 false (.t 7),none⟩,⟨some 9, .bin .neq (.t 8) (.v (.str [])),none⟩,⟨some 10, .mv (.t 9),none⟩,⟨some 11, .fadr 0 (.t 2), some (10, true)⟩,⟨some 12, .load 1 false (.t 11), some (10, true)⟩,⟨some 13, .bin .eql (.t 12) (.v (.str [])), some (10, true)⟩,⟨some 14, .mv (.t 13), some (10, true)⟩,⟨some 15, .fadr 0 (.t 2), some (14, false)⟩,⟨some 16, .load 1 false (.t 15), some (14, false)⟩,⟨some 17, .fadr 0 (.t 3), some (14, false)⟩,⟨some 18, .load 1 false (.t 17), some (14, false)⟩,⟨some 19, .call .deep (.v (.clo F.hallmarkref03_Numbers [] [])) [.t 16, .t 18], some (14, false)⟩,⟨some 20, .bin .lss (.t 19) (.v (.int .i64 0)), some (14, false)⟩,⟨some 21, .pick (.t 14) (.v (.bool true)) (.t 20), some (10, true)⟩,⟨some 22, .pick (.t 10) (.t 21) (.v (.bool false)),none⟩]
def r4 : List AO := [⟨some 4, .asg (.v (.bool false)),none⟩]
def r5 : List AO := [⟨some 23, .fadr 1 (.t 3),none⟩,⟨some 24, .load 1 false (.t 23),none⟩,⟨some 25, .bin .eql (.t 24) (.v (.str [])),none⟩,⟨some 26, .mv (.t 25),none⟩,⟨some 27, .fadr 1 (.t 2), some (26, false)⟩,⟨some 28, .load 1 false (.t 27), some (26, false)⟩,⟨some 29, .bin .neq (.t 28) (.v (.str [])), some (26, false)⟩,⟨some 30, .mv (.t 29), some (26, false)⟩,⟨some 31, .fadr 1 (.t 2), some (30, true)⟩,⟨some 32, .load 1 false (.t 31), some (30, true)⟩,⟨some 33, .fadr 1 (.t 3), some (30, true)⟩,⟨some 34, .load 1 false (.t 33), some (30, true)⟩,⟨some 35, .call .deep (.v (.clo F.hallmarkref03_Numbers [] [])) [.t 32, .t 34], some (30, true)⟩,⟨some 36, .bin .leq (.t 35) (.v (.int .i64 0)), some (30, true)⟩,⟨some 37, .pick (.t 30) (.t 36) (.v (.bool false)), some (26, false)⟩,⟨some 38, .pick (.t 26) (.v (.bool true)) (.t 37),none⟩,⟨some 4, .asg (.t 38),none⟩]
def body : AC := .seq (.reg r0 [2, 3]) (.seq (.seq (.reg r1 [2, 3, 6]) (.cond (.t 6) (.seq (.reg r2 [4]) (.ret)) (.skip))) (.seq (.seq (.reg r3 [2, 3, 22]) (.cond (.t 22) (.seq (.reg r4 [4]) (.ret)) (.skip))) (.seq (.reg r5 [4]) (.ret))))
def fn : AFun := ⟨[.val, .val], 39, [.tmp 4], [], body⟩
end hallmarkref12_Span
namespace hallmarklaw12_lives
def r0 : List AO := [⟨some 0, .asg (.v (.bool false)),none⟩]
def r1 : List AO := [⟨some 3, .buildS 1 1 [.av (.str [])] [(0, 1, .v (.str [97]))],none⟩,⟨some 4, .build [.av (.bool false), .av (.bool false), .av (.bool false), .av (.bool false), .own 2 [], .av (.bool false), .own 1 [], .own 11 [], .own 12 []] [(6, 1, .t 3)],none⟩,⟨some 1, .alloc [.av (.bool false), .av (.bool false), .av (.bool false), .av (.bool false), .own 2 [], .av (.bool false), .own 1 [], .own 11 [], .own 12 []],none⟩,⟨none, .store 9 (.t 1) (.t 4),none⟩]
def r2 : List AO := [⟨some 5, .build [.av (.bool false), .av (.bool false), .av (.bool false), .av (.bool false), .own 2 [], .av (.bool false), .own 1 [], .own 11 [], .own 12 []] [(5, 1, .v (.bool true))],none⟩,⟨some 2, .alloc [.av (.bool false), .av (.bool false), .av (.bool false), .av (.bool false), .own 2 [], .av (.bool false), .own 1 [], .own 11 [], .own 12 []],none⟩,⟨none, .store 9 (.t 2) (.t 5),none⟩]
def r3 : List AO := [⟨some 6, .load 9 true (.t 1),none⟩,⟨some 7, .load 9 true (.t 2),none⟩,⟨some 8, .call .deep (.v (.clo F.below_Below [] [])) [.t 6, .t 7],none⟩,⟨some 9, .mv (.t 8),none⟩,⟨some 10, .load 9 true (.t 2), some (9, true)⟩,⟨some 11, .load 9 true (.t 1), some (9, true)⟩,⟨some 12, .call .deep (.v (.clo F.below_Below [] [])) [.t 10, .t 11], some (9, true)⟩,⟨some 13, .un .not (.t 12), some (9, true)⟩,⟨some 14, .pick (.t 9) (.t 13) (.v (.bool false)),none⟩,⟨some 15, .mv (.t 14),none⟩,⟨some 16, .load 9 true (.t 1), some (15, true)⟩,⟨some 17, .build [.av (.bool false), .av (.bool false), .av (.bool false), .av (.bool false), .own 2 [], .av (.bool false), .own 1 [], .own 11 [], .own 12 []] [(1, 1, .v (.bool true))], some (15, true)⟩,⟨some 18, .call .deep (.v (.clo F.below_Apart [] [])) [.t 16, .t 17], some (15, true)⟩,⟨some 19, .pick (.t 15) (.t 18) (.v (.bool false)),none⟩,⟨some 20, .mv (.t 19),none⟩,⟨some 21, .take 9 true (.t 1), some (20, true)⟩,⟨some 22, .take 9 true (.t 2), some (20, true)⟩,⟨some 23, .call .deep (.v (.clo F.below_Apart [] [])) [.t 21, .t 22], some (20, true)⟩,⟨some 24, .un .not (.t 23), some (20, true)⟩,⟨some 25, .pick (.t 20) (.t 24) (.v (.bool false)),none⟩,⟨some 0, .asg (.t 25),none⟩]
def body : AC := .seq (.reg r0 []) (.seq (.reg r1 [1]) (.seq (.reg r2 [1, 2]) (.seq (.reg r3 [0]) (.ret))))
def fn : AFun := ⟨[], 26, [.tmp 0], [], body⟩
end hallmarklaw12_lives
namespace hallmarklaw12_formed
def r0 : List AO := [⟨some 1, .box (.t 0),none⟩,⟨some 2, .asg (.v (.bool false)),none⟩]
def r1 : List AO := [⟨some 3, .load 9 true (.t 1),none⟩,⟨some 4, .call .deep (.v (.clo F.hallmarkkit_FitType [] [])) [.t 3],none⟩,⟨some 5, .mv (.t 4),none⟩,⟨some 6, .take 9 true (.t 1), some (5, true)⟩,⟨some 7, .call .deep (.v (.clo F.hallmarkref09_Formed [] [])) [.t 6], some (5, true)⟩,⟨some 8, .pick (.t 5) (.t 7) (.v (.bool false)),none⟩,⟨some 2, .asg (.t 8),none⟩]
def body : AC := .seq (.reg r0 [1]) (.seq (.reg r1 [2]) (.ret))
def fn : AFun := ⟨[.val], 9, [.tmp 2], [], body⟩
end hallmarklaw12_formed
namespace below_Below
def r0 : List AO := [⟨some 2, .box (.t 0),none⟩,⟨some 3, .box (.t 1),none⟩,⟨some 4, .asg (.v (.bool false)),none⟩]
def r1 : List AO := [⟨some 7, .load 9 true (.t 2),none⟩,⟨some 8, .call .deep (.v (.clo F.below_never [] [])) [.t 7],none⟩,⟨some 9, .mv (.t 8),none⟩,⟨some 10, .fadr 0 (.t 3), some (9, false)⟩,⟨some 11, .load 1 false (.t 10), some (9, false)⟩,⟨some 12, .pick (.t 9) (.v (.bool true)) (.t 11),none⟩]
def r2 : List AO := [⟨some 4, .asg (.v (.bool true)),none⟩]
def r3 : List AO := [⟨some 13, .build [.av .nilf, .av .nilf, .av .nilf, .av .nilf, .av .nilf] [(0, 1, .v (.clo F.below_side_words [] [])), (1, 1, .v (.clo F.below_side_nums [] [])), (2, 1, .v (.clo F.below_side_texts [] [])), (3, 1, .v (.clo F.below_side_arrays [] [])), (4, 1, .v (.clo F.below_side_objects [] []))],none⟩,⟨some 14, .mv (.v (.int .i64 0)),none⟩]
def r4 : List AO := [⟨some 15, .bin .lss (.t 14) (.v (.int .i64 5)),none⟩]
def r5 : List AO := [⟨some 16, .idxA 5 1 false (.t 13) (.t 14),none⟩,⟨some 6, .asg (.t 16),none⟩]
def r6 : List Ph := [.bag false [] [6, 18, 19, 20] [(0, ⟨some 17, .mv (.t 6),none⟩),(1, ⟨some 18, .load 9 true (.t 2),none⟩),(2, ⟨some 19, .call .deep (.v (.clo F.below_laid [] [])) [.t 18],none⟩),(3, ⟨some 20, .load 9 true (.t 3),none⟩),(4, ⟨some 21, .call .deep (.t 17) [.t 19, .t 20],none⟩),(5, ⟨some 22, .un .not (.t 21),none⟩)]]
def r7 : List AO := [⟨some 4, .asg (.v (.bool false)),none⟩]
def r8 : List AO := [⟨some 23, .bin .add (.t 14) (.v (.int .i64 1)),none⟩,⟨some 14, .mv (.t 23),none⟩]
def l1 : AC := .seq (.reg r4 [2, 3, 13, 14, 15]) (.seq (.cond (.t 15) (.skip) (.exit 0)) (.seq (.block 1 (.seq (.reg r5 [2, 3, 6, 13, 14]) (.seq (.dreg r6 [2, 3, 13, 14, 22]) (.cond (.t 22) (.seq (.reg r7 [4]) (.ret)) (.skip))))) (.reg r8 [2, 3, 13, 14])))
def r9 : List AO := [⟨some 4, .asg (.v (.bool true)),none⟩]
def body : AC := .seq (.reg r0 [2, 3]) (.seq (.seq (.reg r1 [2, 3, 12]) (.cond (.t 12) (.seq (.reg r2 [4]) (.ret)) (.skip))) (.seq (.seq (.reg r3 [2, 3, 13, 14]) (.block 0 (.loop [2, 3, 13, 14] l1))) (.seq (.reg r9 [4]) (.ret))))
def fn : AFun := ⟨[.val, .val], 24, [.tmp 4], [], body⟩
end below_Below
namespace below_Apart
def r0 : List AO := [⟨some 2, .box (.t 0),none⟩,⟨some 3, .box (.t 1),none⟩,⟨some 4, .asg (.v (.bool false)),none⟩]
def r1 : List Ph := [.bag false [] [9, 11] [(0, ⟨some 9, .load 9 true (.t 2),none⟩),(1, ⟨some 10, .call .deep (.v (.clo F.below_laid [] [])) [.t 9],none⟩),(2, ⟨some 11, .load 9 true (.t 3),none⟩),(3, ⟨some 12, .call .deep (.v (.clo F.below_laid [] [])) [.t 11],none⟩),(4, ⟨some 5, .alloc [.av (.bool false), .av (.bool false), .av (.bool false), .av (.bool false), .own 2 [], .av (.bool false), .own 1 [], .own 11 [], .own 12 []],none⟩),(5, ⟨some 6, .alloc [.av (.bool false), .av (.bool false), .av (.bool false), .av (.bool false), .own 2 [], .av (.bool false), .own 1 [], .own 11 [], .own 12 []],none⟩)],.one 6 ⟨none, .store 9 (.t 5) (.t 10),none⟩,.one 7 ⟨none, .store 9 (.t 6) (.t 12),none⟩]
def r2 : List AO := [⟨some 13, .build [.av .nilf, .av .nilf, .av .nilf, .av .nilf, .av .nilf] [(0, 1, .v (.clo F.below_side_apartWords [] [])), (1, 1, .v (.clo F.below_side_apartNums [] [])), (2, 1, .v (.clo F.below_side_apartTexts [] [])), (3, 1, .v (.clo F.below_side_apartArrays [] [])), (4, 1, .v (.clo F.below_side_apartObjects [] []))],none⟩,⟨some 14, .mv (.v (.int .i64 0)),none⟩]
def r3 : List AO := [⟨some 15, .bin .lss (.t 14) (.v (.int .i64 5)),none⟩]
def r4 : List AO := [⟨some 16, .idxA 5 1 false (.t 13) (.t 14),none⟩,⟨some 8, .asg (.t 16),none⟩]
def r5 : List AO := [⟨some 17, .mv (.t 8),none⟩,⟨some 18, .load 9 true (.t 5),none⟩,⟨some 19, .load 9 true (.t 6),none⟩,⟨some 20, .call .deep (.t 17) [.t 18, .t 19],none⟩,⟨some 21, .un .not (.t 20),none⟩]
def r6 : List AO := [⟨some 4, .asg (.v (.bool false)),none⟩]
def r7 : List AO := [⟨some 22, .bin .add (.t 14) (.v (.int .i64 1)),none⟩,⟨some 14, .mv (.t 22),none⟩]
def l1 : AC := .seq (.reg r3 [5, 6, 13, 14, 15]) (.seq (.cond (.t 15) (.skip) (.exit 0)) (.seq (.block 1 (.seq (.reg r4 [5, 6, 8, 13, 14]) (.seq (.reg r5 [5, 6, 13, 14, 21]) (.cond (.t 21) (.seq (.reg r6 [4]) (.ret)) (.skip))))) (.reg r7 [5, 6, 13, 14])))
def r8 : List AO := [⟨some 4, .asg (.v (.bool true)),none⟩]
def body : AC := .seq (.reg r0 [2, 3]) (.seq (.dreg r1 [5, 6]) (.seq (.seq (.reg r2 [5, 6, 13, 14]) (.block 0 (.loop [5, 6, 13, 14] l1))) (.seq (.reg r8 [4]) (.ret))))
def fn : AFun := ⟨[.val, .val], 23, [.tmp 4], [], body⟩
end below_Apart
namespace hallmarklaw12_BelowRow
def r0 : List AO := [⟨some 3, .box (.t 0),none⟩,⟨some 4, .box (.t 1),none⟩,⟨some 5, .box (.t 2),none⟩,⟨some 6, .asg (.v (.bool false)),none⟩]
def r1 : List AO := [⟨some 11, .call .deep (.v (.clo F.hallmarklaw12_lives [] [])) [],none⟩,⟨some 12, .un .not (.t 11),none⟩]
def r2 : List AO := [⟨some 6, .asg (.v (.bool false)),none⟩]
def r3 : List AO := [⟨some 13, .load 9 true (.t 3),none⟩,⟨some 14, .call .deep (.v (.clo F.hallmarklaw12_formed [] [])) [.t 13],none⟩,⟨some 15, .un .not (.t 14),none⟩,⟨some 16, .mv (.t 15),none⟩,⟨some 17, .load 9 true (.t 4), some (16, false)⟩,⟨some 18, .call .deep (.v (.clo F.hallmarklaw12_formed [] [])) [.t 17], some (16, false)⟩,⟨some 19, .un .not (.t 18), some (16, false)⟩,⟨some 20, .pick (.t 16) (.v (.bool true)) (.t 19),none⟩,⟨some 21, .mv (.t 20),none⟩,⟨some 22, .load 9 true (.t 5), some (21, false)⟩,⟨some 23, .call .deep (.v (.clo F.hallmarklaw12_formed [] [])) [.t 22], some (21, false)⟩,⟨some 24, .un .not (.t 23), some (21, false)⟩,⟨some 25, .pick (.t 21) (.v (.bool true)) (.t 24),none⟩]
def r4 : List AO := [⟨some 6, .asg (.v (.bool true)),none⟩]
def r5 : List Ph := [.bag false [] [26, 27, 31, 32, 34] [(0, ⟨some 26, .load 9 true (.t 3),none⟩),(1, ⟨some 27, .load 9 true (.t 3),none⟩),(2, ⟨some 28, .call .deep (.v (.clo F.below_Below [] [])) [.t 26, .t 27],none⟩),(3, ⟨some 29, .un .not (.t 28),none⟩),(4, ⟨some 30, .mv (.t 29),none⟩),(5, ⟨some 31, .load 9 true (.t 3), some (30, false)⟩),(6, ⟨some 32, .load 9 true (.t 3), some (30, false)⟩),(7, ⟨some 33, .call .deep (.v (.clo F.below_Apart [] [])) [.t 31, .t 32], some (30, false)⟩),(8, ⟨some 34, .load 9 true (.t 3), some (30, false)⟩),(9, ⟨some 35, .call .deep (.v (.clo F.hallmarkref09_Never [] [])) [.t 34], some (30, false)⟩),(10, ⟨some 36, .binB true (.t 33) (.t 35), some (30, false)⟩),(11, ⟨some 37, .pick (.t 30) (.v (.bool true)) (.t 36),none⟩)]]
def r6 : List AO := [⟨some 6, .asg (.v (.bool false)),none⟩]
def r7 : List AO := [⟨some 38, .load 9 true (.t 3),none⟩,⟨some 39, .load 9 true (.t 4),none⟩,⟨some 40, .call .deep (.v (.clo F.below_Below [] [])) [.t 38, .t 39],none⟩,⟨some 7, .asg (.t 40),none⟩]
def r8 : List AO := [⟨some 41, .load 9 true (.t 4),none⟩,⟨some 42, .load 9 true (.t 5),none⟩,⟨some 43, .call .deep (.v (.clo F.below_Below [] [])) [.t 41, .t 42],none⟩,⟨some 8, .asg (.t 43),none⟩]
def r9 : List AO := [⟨some 44, .mv (.t 7),none⟩,⟨some 45, .mv (.t 44),none⟩,⟨some 46, .mv (.t 8), some (45, true)⟩,⟨some 47, .pick (.t 45) (.t 46) (.v (.bool false)),none⟩,⟨some 48, .mv (.t 47),none⟩,⟨some 49, .load 9 true (.t 4), some (48, true)⟩,⟨some 50, .call .deep (.v (.clo F.hallmarkref12_Single [] [])) [.t 49], some (48, true)⟩,⟨some 51, .pick (.t 48) (.t 50) (.v (.bool false)),none⟩,⟨some 52, .mv (.t 51),none⟩,⟨some 53, .load 9 true (.t 5), some (52, true)⟩,⟨some 54, .call .deep (.v (.clo F.hallmarkref12_Single [] [])) [.t 53], some (52, true)⟩,⟨some 55, .pick (.t 52) (.t 54) (.v (.bool false)),none⟩,⟨some 56, .mv (.t 55),none⟩,⟨some 57, .load 9 true (.t 3), some (56, true)⟩,⟨some 58, .load 9 true (.t 5), some (56, true)⟩,⟨some 59, .call .deep (.v (.clo F.below_Below [] [])) [.t 57, .t 58], some (56, true)⟩,⟨some 60, .un .not (.t 59), some (56, true)⟩,⟨some 61, .pick (.t 56) (.t 60) (.v (.bool false)),none⟩]
def r10 : List AO := [⟨some 6, .asg (.v (.bool false)),none⟩]
def r11 : List AO := [⟨some 62, .load 9 true (.t 4),none⟩,⟨some 63, .load 9 true (.t 5),none⟩,⟨some 64, .call .deep (.v (.clo F.below_Apart [] [])) [.t 62, .t 63],none⟩,⟨some 9, .asg (.t 64),none⟩]
def r12 : List AO := [⟨some 65, .load 9 true (.t 5),none⟩,⟨some 66, .take 9 true (.t 4),none⟩,⟨some 67, .call .deep (.v (.clo F.below_Apart [] [])) [.t 65, .t 66],none⟩,⟨some 10, .asg (.t 67),none⟩]
def r13 : List AO := [⟨some 68, .mv (.t 9),none⟩,⟨some 69, .mv (.t 10),none⟩,⟨some 70, .binB false (.t 68) (.t 69),none⟩,⟨some 71, .mv (.t 70),none⟩,⟨some 72, .mv (.t 7), some (71, true)⟩,⟨some 73, .un .not (.t 72), some (71, true)⟩,⟨some 74, .mv (.t 73), some (71, true)⟩,⟨some 75, .mv (.t 9), some (74, false)⟩,⟨some 76, .un .not (.t 75), some (74, false)⟩,⟨some 77, .pick (.t 74) (.v (.bool true)) (.t 76), some (71, true)⟩,⟨some 78, .mv (.t 77), some (71, true)⟩,⟨some 79, .take 9 true (.t 3), some (78, false)⟩,⟨some 80, .take 9 true (.t 5), some (78, false)⟩,⟨some 81, .call .deep (.v (.clo F.below_Apart [] [])) [.t 79, .t 80], some (78, false)⟩,⟨some 82, .pick (.t 78) (.v (.bool true)) (.t 81), some (71, true)⟩,⟨some 83, .pick (.t 71) (.t 82) (.v (.bool false)),none⟩,⟨some 6, .asg (.t 83),none⟩]
def body : AC := .seq (.reg r0 [3, 4, 5]) (.seq (.seq (.reg r1 [3, 4, 5, 12]) (.cond (.t 12) (.seq (.reg r2 [6]) (.ret)) (.skip))) (.seq (.seq (.reg r3 [3, 4, 5, 25]) (.cond (.t 25) (.seq (.reg r4 [6]) (.ret)) (.skip))) (.seq (.seq (.dreg r5 [3, 4, 5, 37]) (.cond (.t 37) (.seq (.reg r6 [6]) (.ret)) (.skip))) (.seq (.reg r7 [3, 4, 5, 7]) (.seq (.reg r8 [3, 4, 5, 7, 8]) (.seq (.seq (.reg r9 [3, 4, 5, 7, 61]) (.cond (.t 61) (.seq (.reg r10 [6]) (.ret)) (.skip))) (.seq (.reg r11 [3, 4, 5, 7, 9]) (.seq (.reg r12 [3, 5, 7, 9, 10]) (.seq (.reg r13 [6]) (.ret))))))))))
def fn : AFun := ⟨[.val, .val, .val], 84, [.tmp 6], [], body⟩
end hallmarklaw12_BelowRow
namespace hallmarkref12_Single
def r0 : List AO := [⟨some 1, .box (.t 0),none⟩,⟨some 2, .asg (.v (.bool false)),none⟩]
def r1 : List AO := [⟨some 6, .fadr 8 (.t 1),none⟩,⟨some 7, .load 1 false (.t 6),none⟩,⟨some 8, .len false (.t 7),none⟩,⟨some 9, .bin .gtr (.t 8) (.v (.int .i64 1)),none⟩]
def r2 : List AO := [⟨some 2, .asg (.v (.bool false)),none⟩]
def r3 : List AO := [⟨some 3, .asg (.v (.int .i64 0)),none⟩]
def r4 : List AO := [⟨some 10, .mv (.t 3),none⟩,⟨some 11, .fadr 7 (.t 1),none⟩,⟨some 12, .load 1 false (.t 11),none⟩,⟨some 13, .len false (.t 12),none⟩,⟨some 14, .bin .lss (.t 10) (.t 13),none⟩]
def r6 : List AO := [⟨some 17, .fadr 7 (.t 1),none⟩,⟨some 18, .load 1 false (.t 17),none⟩,⟨some 19, .mv (.t 3),none⟩,⟨some 20, .iadr 11 (.t 18) (.t 19),none⟩,⟨some 21, .fadr 0 (.t 20),none⟩,⟨some 22, .load 9 true (.t 21),none⟩,⟨some 23, .call .deep (.v (.clo F.hallmarkref12_Single [] [])) [.t 22],none⟩,⟨some 24, .un .not (.t 23),none⟩]
def r7 : List AO := [⟨some 2, .asg (.v (.bool false)),none⟩]
def r5 : List AO := [⟨some 15, .mv (.t 3),none⟩,⟨some 16, .bin .add (.t 15) (.v (.int .i64 1)),none⟩,⟨some 3, .asg (.t 16),none⟩]
def l1 : AC := .seq (.seq (.reg r4 [1, 3, 14]) (.cond (.t 14) (.skip) (.exit 0))) (.seq (.block 1 (.seq (.reg r6 [1, 3, 24]) (.cond (.t 24) (.seq (.reg r7 [2]) (.ret)) (.skip)))) (.reg r5 [1, 3]))
def r8 : List AO := [⟨some 4, .asg (.v (.int .i64 0)),none⟩]
def r9 : List AO := [⟨some 25, .mv (.t 4),none⟩,⟨some 26, .fadr 8 (.t 1),none⟩,⟨some 27, .load 1 false (.t 26),none⟩,⟨some 28, .len false (.t 27),none⟩,⟨some 29, .bin .lss (.t 25) (.t 28),none⟩]
def r11 : List AO := [⟨some 32, .fadr 8 (.t 1),none⟩,⟨some 33, .load 1 false (.t 32),none⟩,⟨some 34, .mv (.t 4),none⟩,⟨some 35, .iadr 12 (.t 33) (.t 34),none⟩,⟨some 36, .fadr 3 (.t 35),none⟩,⟨some 37, .load 9 true (.t 36),none⟩,⟨some 38, .call .deep (.v (.clo F.hallmarkref12_Single [] [])) [.t 37],none⟩,⟨some 39, .un .not (.t 38),none⟩]
def r12 : List AO := [⟨some 2, .asg (.v (.bool false)),none⟩]
def r13 : List AO := [⟨some 5, .asg (.v (.int .i64 0)),none⟩]
def r14 : List AO := [⟨some 40, .mv (.t 5),none⟩,⟨some 41, .fadr 8 (.t 1),none⟩,⟨some 42, .load 1 false (.t 41),none⟩,⟨some 43, .mv (.t 4),none⟩,⟨some 44, .iadr 12 (.t 42) (.t 43),none⟩,⟨some 45, .fadr 1 (.t 44),none⟩,⟨some 46, .load 1 false (.t 45),none⟩,⟨some 47, .len false (.t 46),none⟩,⟨some 48, .bin .lss (.t 40) (.t 47),none⟩]
def r16 : List AO := [⟨some 51, .fadr 8 (.t 1),none⟩,⟨some 52, .load 1 false (.t 51),none⟩,⟨some 53, .mv (.t 4),none⟩,⟨some 54, .iadr 12 (.t 52) (.t 53),none⟩,⟨some 55, .fadr 1 (.t 54),none⟩,⟨some 56, .load 1 false (.t 55),none⟩,⟨some 57, .mv (.t 5),none⟩,⟨some 58, .iadr 9 (.t 56) (.t 57),none⟩,⟨some 59, .load 9 true (.t 58),none⟩,⟨some 60, .call .deep (.v (.clo F.hallmarkref12_Single [] [])) [.t 59],none⟩,⟨some 61, .un .not (.t 60),none⟩]
def r17 : List AO := [⟨some 2, .asg (.v (.bool false)),none⟩]
def r15 : List AO := [⟨some 49, .mv (.t 5),none⟩,⟨some 50, .bin .add (.t 49) (.v (.int .i64 1)),none⟩,⟨some 5, .asg (.t 50),none⟩]
def l3 : AC := .seq (.seq (.reg r14 [1, 4, 5, 48]) (.cond (.t 48) (.skip) (.exit 4))) (.seq (.block 5 (.seq (.reg r16 [1, 4, 5, 61]) (.cond (.t 61) (.seq (.reg r17 [2]) (.ret)) (.skip)))) (.reg r15 [1, 4, 5]))
def r10 : List AO := [⟨some 30, .mv (.t 4),none⟩,⟨some 31, .bin .add (.t 30) (.v (.int .i64 1)),none⟩,⟨some 4, .asg (.t 31),none⟩]
def l2 : AC := .seq (.seq (.reg r9 [1, 4, 29]) (.cond (.t 29) (.skip) (.exit 2))) (.seq (.block 3 (.seq (.seq (.reg r11 [1, 4, 39]) (.cond (.t 39) (.seq (.reg r12 [2]) (.ret)) (.skip))) (.seq (.reg r13 [1, 4, 5]) (.block 4 (.loop [1, 4, 5] l3))))) (.reg r10 [1, 4]))
def r18 : List AO := [⟨some 2, .asg (.v (.bool true)),none⟩]
def body : AC := .seq (.reg r0 [1]) (.seq (.seq (.reg r1 [1, 9]) (.cond (.t 9) (.seq (.reg r2 [2]) (.ret)) (.skip))) (.seq (.seq (.reg r3 [1, 3]) (.block 0 (.loop [1, 3] l1))) (.seq (.seq (.reg r8 [1, 4]) (.block 2 (.loop [1, 4] l2))) (.seq (.reg r18 [2]) (.ret)))))
def fn : AFun := ⟨[.val], 62, [.tmp 2], [], body⟩
end hallmarkref12_Single
namespace below_hollow
def r0 : List AO := [⟨some 1, .box (.t 0),none⟩,⟨some 2, .asg (.v (.bool false)),none⟩]
def r1 : List AO := [⟨some 3, .fadr 0 (.t 1),none⟩,⟨some 4, .load 1 false (.t 3),none⟩,⟨some 5, .bin .neq (.t 4) (.v (.str [])),none⟩,⟨some 6, .mv (.t 5),none⟩,⟨some 7, .fadr 1 (.t 1), some (6, true)⟩,⟨some 8, .load 1 false (.t 7), some (6, true)⟩,⟨some 9, .bin .neq (.t 8) (.v (.str [])), some (6, true)⟩,⟨some 10, .pick (.t 6) (.t 9) (.v (.bool false)),none⟩,⟨some 11, .mv (.t 10),none⟩,⟨some 12, .fadr 0 (.t 1), some (11, true)⟩,⟨some 13, .load 1 false (.t 12), some (11, true)⟩,⟨some 14, .fadr 1 (.t 1), some (11, true)⟩,⟨some 15, .load 1 false (.t 14), some (11, true)⟩,⟨some 16, .call .deep (.v (.clo F.below_worth [] [])) [.t 13, .t 15], some (11, true)⟩,⟨some 17, .bin .gtr (.t 16) (.v (.int .i64 0)), some (11, true)⟩,⟨some 18, .pick (.t 11) (.t 17) (.v (.bool false)),none⟩,⟨some 2, .asg (.t 18),none⟩]
def body : AC := .seq (.reg r0 [1]) (.seq (.reg r1 [2]) (.ret))
def fn : AFun := ⟨[.val], 19, [.tmp 2], [], body⟩
end below_hollow
namespace below_worth
def r0 : List AO := [⟨some 4, .asg (.v (.int .i64 0)),none⟩]
def r1 : List AO := [⟨some 8, .mv (.t 0),none⟩,⟨some 9, .mv (.t 1),none⟩,⟨some 10, .call .deep (.v (.clo F.tens_Cmp [] [])) [.t 8, .t 9],none⟩,⟨some 7, .mv (.t 10),none⟩,⟨some 11, .ext (.t 7) 0,none⟩,⟨some 12, .ext (.t 7) 1,none⟩,⟨some 5, .asg (.t 11),none⟩,⟨some 6, .asg (.t 12),none⟩]
def r2 : List AO := [⟨some 13, .mv (.t 5),none⟩,⟨some 4, .asg (.t 13),none⟩]
def body : AC := .seq (.reg r0 [0, 1]) (.seq (.reg r1 [5]) (.seq (.reg r2 [4]) (.ret)))
def fn : AFun := ⟨[.val, .val], 14, [.tmp 4], [], body⟩
end below_worth
namespace hallmarkref12_Hollow
def r0 : List AO := [⟨some 1, .box (.t 0),none⟩,⟨some 2, .asg (.v (.bool false)),none⟩]
def r1 : List AO := [⟨some 3, .fadr 0 (.t 1),none⟩,⟨some 4, .load 1 false (.t 3),none⟩,⟨some 5, .bin .neq (.t 4) (.v (.str [])),none⟩,⟨some 6, .mv (.t 5),none⟩,⟨some 7, .fadr 1 (.t 1), some (6, true)⟩,⟨some 8, .load 1 false (.t 7), some (6, true)⟩,⟨some 9, .bin .neq (.t 8) (.v (.str [])), some (6, true)⟩,⟨some 10, .pick (.t 6) (.t 9) (.v (.bool false)),none⟩,⟨some 11, .mv (.t 10),none⟩,⟨some 12, .fadr 0 (.t 1), some (11, true)⟩,⟨some 13, .load 1 false (.t 12), some (11, true)⟩,⟨some 14, .fadr 1 (.t 1), some (11, true)⟩,⟨some 15, .load 1 false (.t 14), some (11, true)⟩,⟨some 16, .call .deep (.v (.clo F.hallmarkref03_Numbers [] [])) [.t 13, .t 15], some (11, true)⟩,⟨some 17, .bin .gtr (.t 16) (.v (.int .i64 0)), some (11, true)⟩,⟨some 18, .pick (.t 11) (.t 17) (.v (.bool false)),none⟩,⟨some 2, .asg (.t 18),none⟩]
def body : AC := .seq (.reg r0 [1]) (.seq (.reg r1 [2]) (.ret))
def fn : AFun := ⟨[.val], 19, [.tmp 2], [], body⟩
end hallmarkref12_Hollow
namespace below_never
def r0 : List AO := [⟨some 1, .box (.t 0),none⟩,⟨some 2, .asg (.v (.bool false)),none⟩]
def r1 : List AO := [⟨some 3, .take 9 true (.t 1),none⟩,⟨some 4, .call .deep (.v (.clo F.shape_Kinds [] [])) [.t 3],none⟩,⟨some 5, .bin .eql (.t 4) (.v (.int .u8 0)),none⟩,⟨some 2, .asg (.t 5),none⟩]
def body : AC := .seq (.reg r0 [1]) (.seq (.reg r1 [2]) (.ret))
def fn : AFun := ⟨[.val], 6, [.tmp 2], [], body⟩
end below_never
namespace below_side_words
def r0 : List AO := [⟨some 2, .box (.t 0),none⟩,⟨some 3, .box (.t 1),none⟩,⟨some 4, .asg (.v (.bool false)),none⟩]
def r1 : List AO := [⟨some 5, .fadr 1 (.t 2),none⟩,⟨some 6, .load 1 false (.t 5),none⟩,⟨some 7, .un .not (.t 6),none⟩,⟨some 8, .mv (.t 7),none⟩,⟨some 9, .fadr 1 (.t 3), some (8, false)⟩,⟨some 10, .load 1 false (.t 9), some (8, false)⟩,⟨some 11, .pick (.t 8) (.v (.bool true)) (.t 10),none⟩,⟨some 12, .mv (.t 11),none⟩,⟨some 13, .fadr 2 (.t 2), some (12, true)⟩,⟨some 14, .load 1 false (.t 13), some (12, true)⟩,⟨some 15, .un .not (.t 14), some (12, true)⟩,⟨some 16, .mv (.t 15), some (12, true)⟩,⟨some 17, .fadr 2 (.t 3), some (16, false)⟩,⟨some 18, .load 1 false (.t 17), some (16, false)⟩,⟨some 19, .pick (.t 16) (.v (.bool true)) (.t 18), some (12, true)⟩,⟨some 20, .pick (.t 12) (.t 19) (.v (.bool false)),none⟩,⟨some 21, .mv (.t 20),none⟩,⟨some 22, .fadr 3 (.t 2), some (21, true)⟩,⟨some 23, .load 1 false (.t 22), some (21, true)⟩,⟨some 24, .un .not (.t 23), some (21, true)⟩,⟨some 25, .mv (.t 24), some (21, true)⟩,⟨some 26, .fadr 3 (.t 3), some (25, false)⟩,⟨some 27, .load 1 false (.t 26), some (25, false)⟩,⟨some 28, .pick (.t 25) (.v (.bool true)) (.t 27), some (21, true)⟩,⟨some 29, .pick (.t 21) (.t 28) (.v (.bool false)),none⟩,⟨some 4, .asg (.t 29),none⟩]
def body : AC := .seq (.reg r0 [2, 3]) (.seq (.reg r1 [4]) (.ret))
def fn : AFun := ⟨[.val, .val], 30, [.tmp 4], [], body⟩
end below_side_words
namespace below_side_nums
def r0 : List AO := [⟨some 2, .box (.t 0),none⟩,⟨some 3, .box (.t 1),none⟩,⟨some 4, .asg (.v (.bool false)),none⟩]
def r1 : List Ph := [.bag false [] [18, 22] [(0, ⟨some 5, .fadr 4 (.t 2),none⟩),(1, ⟨some 6, .load 1 false (.t 5),none⟩),(2, ⟨some 7, .len false (.t 6),none⟩),(3, ⟨some 8, .bin .eql (.t 7) (.v (.int .i64 0)),none⟩),(4, ⟨some 9, .mv (.t 8),none⟩),(5, ⟨some 10, .fadr 4 (.t 3), some (9, false)⟩),(6, ⟨some 11, .load 1 false (.t 10), some (9, false)⟩),(7, ⟨some 12, .len false (.t 11), some (9, false)⟩),(8, ⟨some 13, .bin .gtr (.t 12) (.v (.int .i64 0)), some (9, false)⟩),(9, ⟨some 14, .mv (.t 13), some (9, false)⟩),(10, ⟨some 15, .fadr 4 (.t 2), some (14, true)⟩),(11, ⟨some 16, .load 1 false (.t 15), some (14, true)⟩),(12, ⟨some 17, .iadr 2 (.t 16) (.v (.int .i64 0)), some (14, true)⟩),(13, ⟨some 18, .load 2 true (.t 17), some (14, true)⟩),(14, ⟨some 19, .fadr 4 (.t 3), some (14, true)⟩),(15, ⟨some 20, .load 1 false (.t 19), some (14, true)⟩),(16, ⟨some 21, .iadr 2 (.t 20) (.v (.int .i64 0)), some (14, true)⟩),(17, ⟨some 22, .load 2 true (.t 21), some (14, true)⟩),(18, ⟨some 23, .call .deep (.v (.clo F.below_Span [] [])) [.t 18, .t 22], some (14, true)⟩),(19, ⟨some 24, .pick (.t 14) (.t 23) (.v (.bool false)), some (9, false)⟩),(20, ⟨some 25, .pick (.t 9) (.v (.bool true)) (.t 24),none⟩),(21, ⟨some 4, .asg (.t 25),none⟩)]]
def body : AC := .seq (.reg r0 [2, 3]) (.seq (.dreg r1 [4]) (.ret))
def fn : AFun := ⟨[.val, .val], 26, [.tmp 4], [], body⟩
end below_side_nums
namespace below_side_texts
def r0 : List AO := [⟨some 2, .box (.t 0),none⟩,⟨some 3, .box (.t 1),none⟩,⟨some 4, .asg (.v (.bool false)),none⟩]
def r1 : List AO := [⟨some 5, .fadr 5 (.t 3),none⟩,⟨some 6, .load 1 false (.t 5),none⟩,⟨some 7, .mv (.t 6),none⟩,⟨some 8, .fadr 5 (.t 2), some (7, false)⟩,⟨some 9, .load 1 false (.t 8), some (7, false)⟩,⟨some 10, .pick (.t 7) (.v (.bool true)) (.t 9),none⟩]
def r2 : List AO := [⟨some 11, .fadr 5 (.t 3),none⟩,⟨some 12, .load 1 false (.t 11),none⟩,⟨some 4, .asg (.t 12),none⟩]
def r3 : List AO := [⟨some 13, .fadr 6 (.t 2),none⟩,⟨some 14, .take 1 false (.t 13),none⟩,⟨some 15, .mkf F.below_side_texts_S1 [] [.t 3],none⟩,⟨some 16, .call .deep (.v (.clo F.slices_ContainsFunc_Lstring_string [] [])) [.t 14, .t 15],none⟩,⟨some 17, .un .not (.t 16),none⟩,⟨some 4, .asg (.t 17),none⟩]
def body : AC := .seq (.reg r0 [2, 3]) (.seq (.seq (.reg r1 [2, 3, 10]) (.cond (.t 10) (.seq (.reg r2 [4]) (.ret)) (.skip))) (.seq (.reg r3 [4]) (.ret)))
def fn : AFun := ⟨[.val, .val], 18, [.tmp 4], [], body⟩
end below_side_texts
namespace below_side_arrays
def r0 : List AO := [⟨some 2, .box (.t 0),none⟩,⟨some 3, .box (.t 1),none⟩,⟨some 4, .asg (.v (.bool false)),none⟩]
def r1 : List AO := [⟨some 7, .fadr 7 (.t 2),none⟩,⟨some 8, .load 1 false (.t 7),none⟩,⟨some 9, .len false (.t 8),none⟩,⟨some 10, .bin .eql (.t 9) (.v (.int .i64 0)),none⟩,⟨some 11, .mv (.t 10),none⟩,⟨some 12, .fadr 7 (.t 3), some (11, false)⟩,⟨some 13, .load 1 false (.t 12), some (11, false)⟩,⟨some 14, .len false (.t 13), some (11, false)⟩,⟨some 15, .bin .eql (.t 14) (.v (.int .i64 0)), some (11, false)⟩,⟨some 16, .pick (.t 11) (.v (.bool true)) (.t 15),none⟩]
def r2 : List AO := [⟨some 17, .fadr 7 (.t 2),none⟩,⟨some 18, .take 1 false (.t 17),none⟩,⟨some 19, .len false (.t 18),none⟩,⟨some 20, .bin .eql (.t 19) (.v (.int .i64 0)),none⟩,⟨some 4, .asg (.t 20),none⟩]
def r3 : List Ph := [.bagS [5, 6] [] [24, 28] [(0, ⟨some 21, .fadr 7 (.t 2),none⟩),(1, ⟨some 22, .load 1 false (.t 21),none⟩),(2, ⟨some 23, .iadr 11 (.t 22) (.v (.int .i64 0)),none⟩),(3, ⟨some 24, .load 11 true (.t 23),none⟩),(4, ⟨some 25, .fadr 7 (.t 3),none⟩),(5, ⟨some 26, .load 1 false (.t 25),none⟩),(6, ⟨some 27, .iadr 11 (.t 26) (.v (.int .i64 0)),none⟩),(7, ⟨some 28, .load 11 true (.t 27),none⟩),(8, ⟨some 5, .alloc [.av (.bool false), .av (.bool false), .av (.bool false), .av (.bool false), .own 2 [], .av (.bool false), .own 1 [], .own 11 [], .own 12 [], .av (.int .i64 0), .av (.int .i64 0)],none⟩),(9, ⟨some 6, .alloc [.av (.bool false), .av (.bool false), .av (.bool false), .av (.bool false), .own 2 [], .av (.bool false), .own 1 [], .own 11 [], .own 12 [], .av (.int .i64 0), .av (.int .i64 0)],none⟩),(10, ⟨none, .store 11 (.t 5) (.t 24),none⟩),(11, ⟨none, .store 11 (.t 6) (.t 28),none⟩)]]
def r4 : List AO := [⟨some 29, .fadr 9 (.t 6),none⟩,⟨some 30, .load 1 false (.t 29),none⟩,⟨some 31, .fadr 9 (.t 5),none⟩,⟨some 32, .load 1 false (.t 31),none⟩,⟨some 33, .bin .gtr (.t 30) (.t 32),none⟩,⟨some 34, .mv (.t 33),none⟩,⟨some 35, .fadr 10 (.t 6), some (34, false)⟩,⟨some 36, .load 1 false (.t 35), some (34, false)⟩,⟨some 37, .bin .geq (.t 36) (.v (.int .i64 0)), some (34, false)⟩,⟨some 38, .mv (.t 37), some (34, false)⟩,⟨some 39, .fadr 10 (.t 5), some (38, true)⟩,⟨some 40, .load 1 false (.t 39), some (38, true)⟩,⟨some 41, .bin .lss (.t 40) (.v (.int .i64 0)), some (38, true)⟩,⟨some 42, .mv (.t 41), some (38, true)⟩,⟨some 43, .fadr 10 (.t 5), some (42, false)⟩,⟨some 44, .load 1 false (.t 43), some (42, false)⟩,⟨some 45, .fadr 10 (.t 6), some (42, false)⟩,⟨some 46, .load 1 false (.t 45), some (42, false)⟩,⟨some 47, .bin .gtr (.t 44) (.t 46), some (42, false)⟩,⟨some 48, .pick (.t 42) (.v (.bool true)) (.t 47), some (38, true)⟩,⟨some 49, .pick (.t 38) (.t 48) (.v (.bool false)), some (34, false)⟩,⟨some 50, .pick (.t 34) (.v (.bool true)) (.t 49),none⟩]
def r5 : List AO := [⟨some 4, .asg (.v (.bool false)),none⟩]
def r6 : List AO := [⟨some 51, .fadr 10 (.t 5),none⟩,⟨some 52, .load 1 false (.t 51),none⟩,⟨some 53, .bin .eql (.t 52) (.v (.int .i64 0)),none⟩,⟨some 54, .mv (.t 53),none⟩,⟨some 55, .fadr 0 (.t 5), some (54, false)⟩,⟨some 56, .take 9 true (.t 55), some (54, false)⟩,⟨some 57, .fadr 0 (.t 6), some (54, false)⟩,⟨some 58, .take 9 true (.t 57), some (54, false)⟩,⟨some 59, .call .deep (.v (.clo F.below_Below [] [])) [.t 56, .t 58], some (54, false)⟩,⟨some 60, .pick (.t 54) (.v (.bool true)) (.t 59),none⟩,⟨some 4, .asg (.t 60),none⟩]
def body : AC := .seq (.reg r0 [2, 3]) (.seq (.seq (.reg r1 [2, 3, 16]) (.cond (.t 16) (.seq (.reg r2 [4]) (.ret)) (.skip))) (.seq (.dreg r3 [5, 6]) (.seq (.seq (.reg r4 [5, 6, 50]) (.cond (.t 50) (.seq (.reg r5 [4]) (.ret)) (.skip))) (.seq (.reg r6 [4]) (.ret)))))
def fn : AFun := ⟨[.val, .val], 61, [.tmp 4], [], body⟩
end below_side_arrays
namespace below_side_objects
def r0 : List AO := [⟨some 2, .box (.t 0),none⟩,⟨some 3, .box (.t 1),none⟩,⟨some 4, .asg (.v (.bool false)),none⟩]
def r1 : List AO := [⟨some 7, .fadr 8 (.t 2),none⟩,⟨some 8, .take 1 false (.t 7),none⟩,⟨some 9, .len false (.t 8),none⟩,⟨some 10, .mv (.v (.int .i64 0)),none⟩]
def r2 : List AO := [⟨some 11, .bin .lss (.t 10) (.t 9),none⟩]
def r3 : List AO := [⟨some 12, .iadr 12 (.t 8) (.t 10),none⟩,⟨some 13, .load 12 true (.t 12),none⟩,⟨some 6, .alloc [.own 1 [], .own 9 [], .own 1 [], .av (.bool false), .av (.bool false), .av (.bool false), .av (.bool false), .own 2 [], .av (.bool false), .own 1 [], .own 11 [], .own 12 []],none⟩,⟨none, .store 12 (.t 6) (.t 13),none⟩]
def r4 : List AO := [⟨some 14, .fadr 8 (.t 3),none⟩,⟨some 15, .load 1 false (.t 14),none⟩,⟨some 16, .mkf F.below_side_objects_S1 [] [.t 6],none⟩,⟨some 17, .call .deep (.v (.clo F.slices_ContainsFunc_LObj_Obj [] [])) [.t 15, .t 16],none⟩,⟨some 18, .un .not (.t 17),none⟩]
def r5 : List AO := [⟨some 4, .asg (.v (.bool false)),none⟩]
def r6 : List AO := [⟨some 19, .bin .add (.t 10) (.v (.int .i64 1)),none⟩,⟨some 10, .mv (.t 19),none⟩]
def l1 : AC := .seq (.reg r2 [3, 8, 9, 10, 11]) (.seq (.cond (.t 11) (.skip) (.exit 0)) (.seq (.block 1 (.seq (.reg r3 [3, 6, 8, 9, 10]) (.seq (.reg r4 [3, 8, 9, 10, 18]) (.cond (.t 18) (.seq (.reg r5 [4]) (.ret)) (.skip))))) (.reg r6 [3, 8, 9, 10])))
def r7 : List AO := [⟨some 4, .asg (.v (.bool true)),none⟩]
def body : AC := .seq (.reg r0 [2, 3]) (.seq (.seq (.reg r1 [3, 8, 9, 10]) (.block 0 (.loop [3, 8, 9, 10] l1))) (.seq (.reg r7 [4]) (.ret)))
def fn : AFun := ⟨[.val, .val], 20, [.tmp 4], [], body⟩
end below_side_objects
namespace below_laid
def r0 : List AO := [⟨some 1, .box (.t 0),none⟩,⟨some 2, .alloc [.av (.bool false), .av (.bool false), .av (.bool false), .av (.bool false), .own 2 [], .av (.bool false), .own 1 [], .own 11 [], .own 12 []],none⟩]
def r1 : List AO := [⟨some 4, .fadr 0 (.t 1),none⟩,⟨some 5, .load 1 false (.t 4),none⟩,⟨some 6, .un .not (.t 5),none⟩]
def r2 : List AO := [⟨some 7, .take 9 true (.t 1),none⟩,⟨none, .store 9 (.t 2) (.t 7),none⟩]
def r3 : List AO := [⟨some 8, .call .deep (.v (.clo F.shape_OfKinds [] [])) [.v (.int .u8 120)],none⟩,⟨some 3, .alloc [.av (.bool false), .av (.bool false), .av (.bool false), .av (.bool false), .own 2 [], .av (.bool false), .own 1 [], .own 11 [], .own 12 []],none⟩,⟨none, .store 9 (.t 3) (.t 8),none⟩]
def r4 : List AO := [⟨some 9, .fadr 1 (.t 3),none⟩,⟨none, .store 1 (.t 9) (.v (.bool true)),none⟩,⟨some 10, .fadr 2 (.t 3),none⟩,⟨none, .store 1 (.t 10) (.v (.bool true)),none⟩,⟨some 11, .fadr 3 (.t 3),none⟩,⟨none, .store 1 (.t 11) (.v (.bool true)),none⟩]
def r5 : List AO := [⟨some 12, .take 9 true (.t 3),none⟩,⟨none, .store 9 (.t 2) (.t 12),none⟩]
def body : AC := .seq (.reg r0 [1, 2]) (.seq (.seq (.reg r1 [1, 2, 6]) (.cond (.t 6) (.seq (.reg r2 [2]) (.ret)) (.skip))) (.seq (.reg r3 [2, 3]) (.seq (.reg r4 [2, 3]) (.seq (.reg r5 [2]) (.ret)))))
def fn : AFun := ⟨[.val], 13, [.cell 2 9 true], [], body⟩
end below_laid
namespace below_side_apartWords
def r0 : List AO := [⟨some 2, .box (.t 0),none⟩,⟨some 3, .box (.t 1),none⟩,⟨some 4, .asg (.v (.bool false)),none⟩]
def r1 : List AO := [⟨some 5, .fadr 1 (.t 2),none⟩,⟨some 6, .load 1 false (.t 5),none⟩,⟨some 7, .un .not (.t 6),none⟩,⟨some 8, .mv (.t 7),none⟩,⟨some 9, .fadr 1 (.t 3), some (8, false)⟩,⟨some 10, .load 1 false (.t 9), some (8, false)⟩,⟨some 11, .un .not (.t 10), some (8, false)⟩,⟨some 12, .pick (.t 8) (.v (.bool true)) (.t 11),none⟩,⟨some 13, .mv (.t 12),none⟩,⟨some 14, .fadr 2 (.t 2), some (13, true)⟩,⟨some 15, .load 1 false (.t 14), some (13, true)⟩,⟨some 16, .un .not (.t 15), some (13, true)⟩,⟨some 17, .mv (.t 16), some (13, true)⟩,⟨some 18, .fadr 2 (.t 3), some (17, false)⟩,⟨some 19, .load 1 false (.t 18), some (17, false)⟩,⟨some 20, .un .not (.t 19), some (17, false)⟩,⟨some 21, .pick (.t 17) (.v (.bool true)) (.t 20), some (13, true)⟩,⟨some 22, .pick (.t 13) (.t 21) (.v (.bool false)),none⟩,⟨some 23, .mv (.t 22),none⟩,⟨some 24, .fadr 3 (.t 2), some (23, true)⟩,⟨some 25, .load 1 false (.t 24), some (23, true)⟩,⟨some 26, .un .not (.t 25), some (23, true)⟩,⟨some 27, .mv (.t 26), some (23, true)⟩,⟨some 28, .fadr 3 (.t 3), some (27, false)⟩,⟨some 29, .load 1 false (.t 28), some (27, false)⟩,⟨some 30, .un .not (.t 29), some (27, false)⟩,⟨some 31, .pick (.t 27) (.v (.bool true)) (.t 30), some (23, true)⟩,⟨some 32, .pick (.t 23) (.t 31) (.v (.bool false)),none⟩,⟨some 4, .asg (.t 32),none⟩]
def body : AC := .seq (.reg r0 [2, 3]) (.seq (.reg r1 [4]) (.ret))
def fn : AFun := ⟨[.val, .val], 33, [.tmp 4], [], body⟩
end below_side_apartWords
namespace below_side_apartNums
def r0 : List AO := [⟨some 2, .box (.t 0),none⟩,⟨some 3, .box (.t 1),none⟩,⟨some 4, .asg (.v (.bool false)),none⟩]
def r1 : List AO := [⟨some 7, .fadr 4 (.t 2),none⟩,⟨some 8, .load 1 false (.t 7),none⟩,⟨some 9, .len false (.t 8),none⟩,⟨some 10, .bin .eql (.t 9) (.v (.int .i64 0)),none⟩,⟨some 11, .mv (.t 10),none⟩,⟨some 12, .fadr 4 (.t 3), some (11, false)⟩,⟨some 13, .load 1 false (.t 12), some (11, false)⟩,⟨some 14, .len false (.t 13), some (11, false)⟩,⟨some 15, .bin .eql (.t 14) (.v (.int .i64 0)), some (11, false)⟩,⟨some 16, .pick (.t 11) (.v (.bool true)) (.t 15),none⟩]
def r2 : List AO := [⟨some 4, .asg (.v (.bool true)),none⟩]
def r3 : List Ph := [.bagS [5, 6] [] [20, 24] [(0, ⟨some 17, .fadr 4 (.t 2),none⟩),(1, ⟨some 18, .load 1 false (.t 17),none⟩),(2, ⟨some 19, .iadr 2 (.t 18) (.v (.int .i64 0)),none⟩),(3, ⟨some 20, .load 2 true (.t 19),none⟩),(4, ⟨some 21, .fadr 4 (.t 3),none⟩),(5, ⟨some 22, .load 1 false (.t 21),none⟩),(6, ⟨some 23, .iadr 2 (.t 22) (.v (.int .i64 0)),none⟩),(7, ⟨some 24, .load 2 true (.t 23),none⟩),(8, ⟨some 5, .alloc [.av (.str []), .av (.str [])],none⟩),(9, ⟨some 6, .alloc [.av (.str []), .av (.str [])],none⟩),(10, ⟨none, .store 2 (.t 5) (.t 20),none⟩),(11, ⟨none, .store 2 (.t 6) (.t 24),none⟩)]]
def r4 : List Ph := [.bag false [] [35] [(0, ⟨some 25, .fadr 0 (.t 5),none⟩),(1, ⟨some 26, .load 1 false (.t 25),none⟩),(2, ⟨some 27, .fadr 0 (.t 6),none⟩),(3, ⟨some 28, .load 1 false (.t 27),none⟩),(4, ⟨some 29, .call .deep (.v (.clo F.below_lower [] [])) [.t 26, .t 28],none⟩),(5, ⟨some 30, .fadr 1 (.t 5),none⟩),(6, ⟨some 31, .load 1 false (.t 30),none⟩),(7, ⟨some 32, .fadr 1 (.t 6),none⟩),(8, ⟨some 33, .load 1 false (.t 32),none⟩),(9, ⟨some 34, .call .deep (.v (.clo F.below_upper [] [])) [.t 31, .t 33],none⟩),(10, ⟨some 35, .build [.av (.str []), .av (.str [])] [(0, 1, .t 29), (1, 1, .t 34)],none⟩),(11, ⟨some 36, .call .deep (.v (.clo F.below_hollow [] [])) [.t 35],none⟩),(12, ⟨some 4, .asg (.t 36),none⟩)]]
def body : AC := .seq (.reg r0 [2, 3]) (.seq (.seq (.reg r1 [2, 3, 16]) (.cond (.t 16) (.seq (.reg r2 [4]) (.ret)) (.skip))) (.seq (.dreg r3 [5, 6]) (.seq (.dreg r4 [4]) (.ret))))
def fn : AFun := ⟨[.val, .val], 37, [.tmp 4], [], body⟩
end below_side_apartNums
namespace below_side_apartTexts
def r0 : List AO := [⟨some 2, .box (.t 0),none⟩,⟨some 3, .box (.t 1),none⟩,⟨some 4, .asg (.v (.bool false)),none⟩]
def r1 : List AO := [⟨some 5, .fadr 5 (.t 2),none⟩,⟨some 6, .load 1 false (.t 5),none⟩,⟨some 7, .mv (.t 6),none⟩,⟨some 8, .fadr 5 (.t 3), some (7, false)⟩,⟨some 9, .load 1 false (.t 8), some (7, false)⟩,⟨some 10, .pick (.t 7) (.v (.bool true)) (.t 9),none⟩]
def r2 : List AO := [⟨some 11, .fadr 5 (.t 2),none⟩,⟨some 12, .load 1 false (.t 11),none⟩,⟨some 13, .mv (.t 12),none⟩,⟨some 14, .fadr 5 (.t 3), some (13, true)⟩,⟨some 15, .load 1 false (.t 14), some (13, true)⟩,⟨some 16, .pick (.t 13) (.t 15) (.v (.bool false)),none⟩,⟨some 17, .un .not (.t 16),none⟩,⟨some 18, .mv (.t 17),none⟩,⟨some 19, .fadr 6 (.t 2), some (18, true)⟩,⟨some 20, .take 1 false (.t 19), some (18, true)⟩,⟨some 21, .len false (.t 20), some (18, true)⟩,⟨some 22, .bin .eql (.t 21) (.v (.int .i64 0)), some (18, true)⟩,⟨some 23, .pick (.t 18) (.t 22) (.v (.bool false)),none⟩,⟨some 24, .mv (.t 23),none⟩,⟨some 25, .fadr 6 (.t 3), some (24, true)⟩,⟨some 26, .take 1 false (.t 25), some (24, true)⟩,⟨some 27, .len false (.t 26), some (24, true)⟩,⟨some 28, .bin .eql (.t 27) (.v (.int .i64 0)), some (24, true)⟩,⟨some 29, .pick (.t 24) (.t 28) (.v (.bool false)),none⟩,⟨some 4, .asg (.t 29),none⟩]
def r3 : List AO := [⟨some 30, .fadr 6 (.t 2),none⟩,⟨some 31, .take 1 false (.t 30),none⟩,⟨some 32, .mkf F.below_side_apartTexts_S1 [] [.t 3],none⟩,⟨some 33, .call .deep (.v (.clo F.slices_ContainsFunc_Lstring_string [] [])) [.t 31, .t 32],none⟩,⟨some 34, .un .not (.t 33),none⟩,⟨some 4, .asg (.t 34),none⟩]
def body : AC := .seq (.reg r0 [2, 3]) (.seq (.seq (.reg r1 [2, 3, 10]) (.cond (.t 10) (.seq (.reg r2 [4]) (.ret)) (.skip))) (.seq (.reg r3 [4]) (.ret)))
def fn : AFun := ⟨[.val, .val], 35, [.tmp 4], [], body⟩
end below_side_apartTexts
namespace below_side_apartArrays
def r0 : List AO := [⟨some 2, .box (.t 0),none⟩,⟨some 3, .box (.t 1),none⟩,⟨some 4, .asg (.v (.bool false)),none⟩]
def r1 : List AO := [⟨some 8, .fadr 7 (.t 2),none⟩,⟨some 9, .load 1 false (.t 8),none⟩,⟨some 10, .len false (.t 9),none⟩,⟨some 11, .bin .eql (.t 10) (.v (.int .i64 0)),none⟩,⟨some 12, .mv (.t 11),none⟩,⟨some 13, .fadr 7 (.t 3), some (12, false)⟩,⟨some 14, .load 1 false (.t 13), some (12, false)⟩,⟨some 15, .len false (.t 14), some (12, false)⟩,⟨some 16, .bin .eql (.t 15) (.v (.int .i64 0)), some (12, false)⟩,⟨some 17, .pick (.t 12) (.v (.bool true)) (.t 16),none⟩]
def r2 : List AO := [⟨some 4, .asg (.v (.bool true)),none⟩]
def r3 : List Ph := [.bagS [5, 6] [] [21, 25] [(0, ⟨some 18, .fadr 7 (.t 2),none⟩),(1, ⟨some 19, .load 1 false (.t 18),none⟩),(2, ⟨some 20, .iadr 11 (.t 19) (.v (.int .i64 0)),none⟩),(3, ⟨some 21, .load 11 true (.t 20),none⟩),(4, ⟨some 22, .fadr 7 (.t 3),none⟩),(5, ⟨some 23, .load 1 false (.t 22),none⟩),(6, ⟨some 24, .iadr 11 (.t 23) (.v (.int .i64 0)),none⟩),(7, ⟨some 25, .load 11 true (.t 24),none⟩),(8, ⟨some 5, .alloc [.av (.bool false), .av (.bool false), .av (.bool false), .av (.bool false), .own 2 [], .av (.bool false), .own 1 [], .own 11 [], .own 12 [], .av (.int .i64 0), .av (.int .i64 0)],none⟩),(9, ⟨some 6, .alloc [.av (.bool false), .av (.bool false), .av (.bool false), .av (.bool false), .own 2 [], .av (.bool false), .own 1 [], .own 11 [], .own 12 [], .av (.int .i64 0), .av (.int .i64 0)],none⟩),(10, ⟨none, .store 11 (.t 5) (.t 21),none⟩),(11, ⟨none, .store 11 (.t 6) (.t 25),none⟩)]]
def r4 : List AO := [⟨some 26, .fadr 9 (.t 5),none⟩,⟨some 27, .load 1 false (.t 26),none⟩,⟨some 28, .fadr 9 (.t 6),none⟩,⟨some 29, .load 1 false (.t 28),none⟩,⟨some 30, .mm true [.t 27, .t 29],none⟩,⟨some 7, .asg (.t 30),none⟩]
def r5 : List AO := [⟨some 31, .fadr 10 (.t 5),none⟩,⟨some 32, .load 1 false (.t 31),none⟩,⟨some 33, .bin .geq (.t 32) (.v (.int .i64 0)),none⟩,⟨some 34, .mv (.t 33),none⟩,⟨some 35, .fadr 10 (.t 5), some (34, true)⟩,⟨some 36, .load 1 false (.t 35), some (34, true)⟩,⟨some 37, .mv (.t 7), some (34, true)⟩,⟨some 38, .bin .lss (.t 36) (.t 37), some (34, true)⟩,⟨some 39, .pick (.t 34) (.t 38) (.v (.bool false)),none⟩,⟨some 40, .mv (.t 39),none⟩,⟨some 41, .fadr 10 (.t 6), some (40, false)⟩,⟨some 42, .load 1 false (.t 41), some (40, false)⟩,⟨some 43, .bin .geq (.t 42) (.v (.int .i64 0)), some (40, false)⟩,⟨some 44, .mv (.t 43), some (40, false)⟩,⟨some 45, .fadr 10 (.t 6), some (44, true)⟩,⟨some 46, .load 1 false (.t 45), some (44, true)⟩,⟨some 47, .mv (.t 7), some (44, true)⟩,⟨some 48, .bin .lss (.t 46) (.t 47), some (44, true)⟩,⟨some 49, .pick (.t 44) (.t 48) (.v (.bool false)), some (40, false)⟩,⟨some 50, .pick (.t 40) (.v (.bool true)) (.t 49),none⟩]
def r6 : List AO := [⟨some 4, .asg (.v (.bool true)),none⟩]
def r7 : List AO := [⟨some 51, .mv (.t 7),none⟩,⟨some 52, .bin .gtr (.t 51) (.v (.int .i64 0)),none⟩,⟨some 53, .mv (.t 52),none⟩,⟨some 54, .fadr 0 (.t 5), some (53, true)⟩,⟨some 55, .take 9 true (.t 54), some (53, true)⟩,⟨some 56, .fadr 0 (.t 6), some (53, true)⟩,⟨some 57, .take 9 true (.t 56), some (53, true)⟩,⟨some 58, .call .deep (.v (.clo F.below_Apart [] [])) [.t 55, .t 57], some (53, true)⟩,⟨some 59, .pick (.t 53) (.t 58) (.v (.bool false)),none⟩,⟨some 4, .asg (.t 59),none⟩]
def body : AC := .seq (.reg r0 [2, 3]) (.seq (.seq (.reg r1 [2, 3, 17]) (.cond (.t 17) (.seq (.reg r2 [4]) (.ret)) (.skip))) (.seq (.dreg r3 [5, 6]) (.seq (.reg r4 [5, 6, 7]) (.seq (.seq (.reg r5 [5, 6, 7, 50]) (.cond (.t 50) (.seq (.reg r6 [4]) (.ret)) (.skip))) (.seq (.reg r7 [4]) (.ret))))))
def fn : AFun := ⟨[.val, .val], 60, [.tmp 4], [], body⟩
end below_side_apartArrays
namespace below_side_apartObjects
def r0 : List AO := [⟨some 2, .box (.t 0),none⟩,⟨some 3, .box (.t 1),none⟩,⟨some 4, .asg (.v (.bool false)),none⟩]
def r1 : List AO := [⟨some 9, .fadr 8 (.t 2),none⟩,⟨some 10, .take 1 false (.t 9),none⟩,⟨some 11, .len false (.t 10),none⟩,⟨some 12, .mv (.v (.int .i64 0)),none⟩]
def r2 : List AO := [⟨some 13, .bin .lss (.t 12) (.t 11),none⟩]
def r3 : List AO := [⟨some 14, .iadr 12 (.t 10) (.t 12),none⟩,⟨some 15, .load 12 true (.t 14),none⟩,⟨some 6, .alloc [.own 1 [], .own 9 [], .own 1 [], .av (.bool false), .av (.bool false), .av (.bool false), .av (.bool false), .own 2 [], .av (.bool false), .own 1 [], .own 11 [], .own 12 []],none⟩,⟨none, .store 12 (.t 6) (.t 15),none⟩]
def r4 : List AO := [⟨some 16, .fadr 8 (.t 3),none⟩,⟨some 17, .load 1 false (.t 16),none⟩,⟨some 18, .len false (.t 17),none⟩,⟨some 19, .mv (.v (.int .i64 0)),none⟩]
def r5 : List AO := [⟨some 20, .bin .lss (.t 19) (.t 18),none⟩]
def r6 : List AO := [⟨some 21, .iadr 12 (.t 17) (.t 19),none⟩,⟨some 22, .load 12 true (.t 21),none⟩,⟨some 8, .alloc [.own 1 [], .own 9 [], .own 1 [], .av (.bool false), .av (.bool false), .av (.bool false), .av (.bool false), .own 2 [], .av (.bool false), .own 1 [], .own 11 [], .own 12 []],none⟩,⟨none, .store 12 (.t 8) (.t 22),none⟩]
def r7 : List AO := [⟨some 23, .load 12 true (.t 6),none⟩,⟨some 24, .take 12 true (.t 8),none⟩,⟨some 25, .call .deep (.v (.clo F.below_unlike [] [])) [.t 23, .t 24],none⟩,⟨some 26, .un .not (.t 25),none⟩]
def r8 : List AO := [⟨some 4, .asg (.v (.bool false)),none⟩]
def r9 : List AO := [⟨some 27, .bin .add (.t 19) (.v (.int .i64 1)),none⟩,⟨some 19, .mv (.t 27),none⟩]
def l2 : AC := .seq (.reg r5 [3, 6, 10, 11, 12, 17, 18, 19, 20]) (.seq (.cond (.t 20) (.skip) (.exit 2)) (.seq (.block 3 (.seq (.reg r6 [3, 6, 8, 10, 11, 12, 17, 18, 19]) (.seq (.reg r7 [3, 6, 10, 11, 12, 17, 18, 19, 26]) (.cond (.t 26) (.seq (.reg r8 [4]) (.ret)) (.skip))))) (.reg r9 [3, 6, 10, 11, 12, 17, 18, 19])))
def r10 : List AO := [⟨some 28, .bin .add (.t 12) (.v (.int .i64 1)),none⟩,⟨some 12, .mv (.t 28),none⟩]
def l1 : AC := .seq (.reg r2 [3, 10, 11, 12, 13]) (.seq (.cond (.t 13) (.skip) (.exit 0)) (.seq (.block 1 (.seq (.reg r3 [3, 6, 10, 11, 12]) (.seq (.reg r4 [3, 6, 10, 11, 12, 17, 18, 19]) (.block 2 (.loop [3, 6, 10, 11, 12, 17, 18, 19] l2))))) (.reg r10 [3, 10, 11, 12])))
def r11 : List AO := [⟨some 4, .asg (.v (.bool true)),none⟩]
def body : AC := .seq (.reg r0 [2, 3]) (.seq (.seq (.reg r1 [3, 10, 11, 12]) (.block 0 (.loop [3, 10, 11, 12] l1))) (.seq (.reg r11 [4]) (.ret)))
def fn : AFun := ⟨[.val, .val], 29, [.tmp 4], [], body⟩
end below_side_apartObjects
namespace below_side_texts_S1
def r0 : List AO := [⟨some 3, .asg (.v (.bool false)),none⟩]
def r1 : List AO := [⟨some 4, .fadr 6 (.t 1),none⟩,⟨some 5, .load 1 false (.t 4),none⟩,⟨some 6, .mv (.t 0),none⟩,⟨some 7, .call .deep (.v (.clo F.slices_Contains_Lstring_string [] [])) [.t 5, .t 6],none⟩,⟨some 8, .un .not (.t 7),none⟩,⟨some 3, .asg (.t 8),none⟩]
def body : AC := .seq (.reg r0 [0, 1]) (.seq (.reg r1 [3]) (.ret))
def fn : AFun := ⟨[.val, .val], 9, [.tmp 3], [], body⟩
end below_side_texts_S1
namespace below_side_objects_S1
def r0 : List AO := [⟨some 2, .box (.t 0),none⟩,⟨some 3, .asg (.v (.bool false)),none⟩]
def r1 : List AO := [⟨some 4, .load 12 true (.t 1),none⟩,⟨some 5, .take 12 true (.t 2),none⟩,⟨some 6, .call .deep (.v (.clo F.below_lies [] [])) [.t 4, .t 5],none⟩,⟨some 3, .asg (.t 6),none⟩]
def body : AC := .seq (.reg r0 [1, 2]) (.seq (.reg r1 [3]) (.ret))
def fn : AFun := ⟨[.val, .val], 7, [.tmp 3], [], body⟩
end below_side_objects_S1
namespace slices_ContainsFunc_LObj_Obj
def r0 : List AO := [⟨some 4, .asg (.v (.bool false)),none⟩]
def r1 : List AO := [⟨some 5, .mv (.t 0),none⟩,⟨some 6, .mv (.t 1),none⟩,⟨some 7, .call .deep (.v (.clo F.slices_IndexFunc_LObj_Obj [] [])) [.t 5, .t 6],none⟩,⟨some 8, .bin .geq (.t 7) (.v (.int .i64 0)),none⟩,⟨some 4, .asg (.t 8),none⟩]
def body : AC := .seq (.reg r0 [0, 1]) (.seq (.reg r1 [4]) (.ret))
def fn : AFun := ⟨[.val, .val], 9, [.tmp 4], [], body⟩
end slices_ContainsFunc_LObj_Obj
namespace below_lower
def r0 : List AO := [⟨some 4, .asg (.v (.str [])),none⟩]
def r1 : List AO := [⟨some 5, .mv (.t 0),none⟩,⟨some 6, .bin .eql (.t 5) (.v (.str [])),none⟩,⟨some 7, .mv (.t 6),none⟩,⟨some 8, .mv (.t 1), some (7, false)⟩,⟨some 9, .bin .neq (.t 8) (.v (.str [])), some (7, false)⟩,⟨some 10, .mv (.t 9), some (7, false)⟩,⟨some 11, .mv (.t 0), some (10, true)⟩,⟨some 12, .mv (.t 1), some (10, true)⟩,⟨some 13, .call .deep (.v (.clo F.below_worth [] [])) [.t 11, .t 12], some (10, true)⟩,⟨some 14, .bin .lss (.t 13) (.v (.int .i64 0)), some (10, true)⟩,⟨some 15, .pick (.t 10) (.t 14) (.v (.bool false)), some (7, false)⟩,⟨some 16, .pick (.t 7) (.v (.bool true)) (.t 15),none⟩]
def r2 : List AO := [⟨some 17, .mv (.t 1),none⟩,⟨some 4, .asg (.t 17),none⟩]
def r3 : List AO := [⟨some 18, .mv (.t 0),none⟩,⟨some 4, .asg (.t 18),none⟩]
def body : AC := .seq (.reg r0 [0, 1]) (.seq (.seq (.reg r1 [0, 1, 16]) (.cond (.t 16) (.seq (.reg r2 [4]) (.ret)) (.skip))) (.seq (.reg r3 [4]) (.ret)))
def fn : AFun := ⟨[.val, .val], 19, [.tmp 4], [], body⟩
end below_lower
namespace below_upper
def r0 : List AO := [⟨some 4, .asg (.v (.str [])),none⟩]
def r1 : List AO := [⟨some 5, .mv (.t 0),none⟩,⟨some 6, .bin .eql (.t 5) (.v (.str [])),none⟩,⟨some 7, .mv (.t 6),none⟩,⟨some 8, .mv (.t 1), some (7, false)⟩,⟨some 9, .bin .neq (.t 8) (.v (.str [])), some (7, false)⟩,⟨some 10, .mv (.t 9), some (7, false)⟩,⟨some 11, .mv (.t 0), some (10, true)⟩,⟨some 12, .mv (.t 1), some (10, true)⟩,⟨some 13, .call .deep (.v (.clo F.below_worth [] [])) [.t 11, .t 12], some (10, true)⟩,⟨some 14, .bin .gtr (.t 13) (.v (.int .i64 0)), some (10, true)⟩,⟨some 15, .pick (.t 10) (.t 14) (.v (.bool false)), some (7, false)⟩,⟨some 16, .pick (.t 7) (.v (.bool true)) (.t 15),none⟩]
def r2 : List AO := [⟨some 17, .mv (.t 1),none⟩,⟨some 4, .asg (.t 17),none⟩]
def r3 : List AO := [⟨some 18, .mv (.t 0),none⟩,⟨some 4, .asg (.t 18),none⟩]
def body : AC := .seq (.reg r0 [0, 1]) (.seq (.seq (.reg r1 [0, 1, 16]) (.cond (.t 16) (.seq (.reg r2 [4]) (.ret)) (.skip))) (.seq (.reg r3 [4]) (.ret)))
def fn : AFun := ⟨[.val, .val], 19, [.tmp 4], [], body⟩
end below_upper
namespace below_side_apartTexts_S1
def r0 : List AO := [⟨some 3, .asg (.v (.bool false)),none⟩]
def r1 : List AO := [⟨some 4, .fadr 6 (.t 1),none⟩,⟨some 5, .load 1 false (.t 4),none⟩,⟨some 6, .mv (.t 0),none⟩,⟨some 7, .call .deep (.v (.clo F.slices_Contains_Lstring_string [] [])) [.t 5, .t 6],none⟩,⟨some 3, .asg (.t 7),none⟩]
def body : AC := .seq (.reg r0 [0, 1]) (.seq (.reg r1 [3]) (.ret))
def fn : AFun := ⟨[.val, .val], 8, [.tmp 3], [], body⟩
end below_side_apartTexts_S1
namespace below_unlike
def r0 : List AO := [⟨some 2, .box (.t 0),none⟩,⟨some 3, .box (.t 1),none⟩,⟨some 4, .asg (.v (.bool false)),none⟩]
def r1 : List AO := [⟨some 5, .load 12 true (.t 2),none⟩,⟨some 6, .load 12 true (.t 3),none⟩,⟨some 7, .call .deep (.v (.clo F.below_names [] [])) [.t 5, .t 6],none⟩,⟨some 8, .mkf F.below_unlike_S1 [] [.t 2, .t 3],none⟩,⟨some 9, .call .deep (.v (.clo F.slices_ContainsFunc_Lstring_string [] [])) [.t 7, .t 8],none⟩,⟨some 4, .asg (.t 9),none⟩]
def body : AC := .seq (.reg r0 [2, 3]) (.seq (.reg r1 [4]) (.ret))
def fn : AFun := ⟨[.val, .val], 10, [.tmp 4], [], body⟩
end below_unlike
namespace slices_Contains_Lstring_string
def r0 : List AO := [⟨some 4, .asg (.v (.bool false)),none⟩]
def r1 : List AO := [⟨some 5, .mv (.t 0),none⟩,⟨some 6, .mv (.t 1),none⟩,⟨some 7, .call .deep (.v (.clo F.slices_Index_Lstring_string [] [])) [.t 5, .t 6],none⟩,⟨some 8, .bin .geq (.t 7) (.v (.int .i64 0)),none⟩,⟨some 4, .asg (.t 8),none⟩]
def body : AC := .seq (.reg r0 [0, 1]) (.seq (.reg r1 [4]) (.ret))
def fn : AFun := ⟨[.val, .val], 9, [.tmp 4], [], body⟩
end slices_Contains_Lstring_string
namespace slices_IndexFunc_LObj_Obj
def r0 : List AO := [⟨some 4, .asg (.v (.int .i64 0)),none⟩]
def r1 : List AO := [⟨some 6, .mv (.t 0),none⟩,⟨some 7, .len false (.t 6),none⟩,⟨some 8, .mv (.v (.int .i64 0)),none⟩]
def r2 : List AO := [⟨some 9, .bin .lss (.t 8) (.t 7),none⟩]
def r3 : List AO := [⟨some 10, .mv (.t 8),none⟩,⟨some 5, .asg (.t 10),none⟩]
def r4 : List AO := [⟨some 11, .mv (.t 1),none⟩,⟨some 12, .mv (.t 0),none⟩,⟨some 13, .mv (.t 5),none⟩,⟨some 14, .iadr 12 (.t 12) (.t 13),none⟩,⟨some 15, .load 12 true (.t 14),none⟩,⟨some 16, .call .deep (.t 11) [.t 15],none⟩]
def r5 : List AO := [⟨some 17, .mv (.t 5),none⟩,⟨some 4, .asg (.t 17),none⟩]
def r6 : List AO := [⟨some 18, .bin .add (.t 8) (.v (.int .i64 1)),none⟩,⟨some 8, .mv (.t 18),none⟩]
def l1 : AC := .seq (.reg r2 [0, 1, 7, 8, 9]) (.seq (.cond (.t 9) (.skip) (.exit 0)) (.seq (.block 1 (.seq (.reg r3 [0, 1, 5, 7, 8]) (.seq (.reg r4 [0, 1, 5, 7, 8, 16]) (.cond (.t 16) (.seq (.reg r5 [4]) (.ret)) (.skip))))) (.reg r6 [0, 1, 7, 8])))
def r7 : List AO := [⟨some 4, .asg (.v (.int .i64 (-1))),none⟩]
def body : AC := .seq (.reg r0 [0, 1]) (.seq (.seq (.reg r1 [0, 1, 7, 8]) (.block 0 (.loop [0, 1, 7, 8] l1))) (.seq (.reg r7 [4]) (.ret)))
def fn : AFun := ⟨[.val, .val], 19, [.tmp 4], [], body⟩
end slices_IndexFunc_LObj_Obj
namespace below_lies
def r0 : List AO := [⟨some 2, .box (.t 0),none⟩,⟨some 3, .box (.t 1),none⟩,⟨some 4, .asg (.v (.bool false)),none⟩]
def r1 : List AO := [⟨some 11, .load 12 true (.t 2),none⟩,⟨some 12, .load 12 true (.t 3),none⟩,⟨some 13, .call .deep (.v (.clo F.below_names [] [])) [.t 11, .t 12],none⟩,⟨some 14, .len false (.t 13),none⟩,⟨some 15, .mv (.v (.int .i64 0)),none⟩]
def r2 : List AO := [⟨some 16, .bin .lss (.t 15) (.t 14),none⟩]
def r3 : List AO := [⟨some 17, .iadr 1 (.t 13) (.t 15),none⟩,⟨some 18, .load 1 false (.t 17),none⟩,⟨some 6, .asg (.t 18),none⟩]
def r4 : List AO := [⟨some 20, .load 12 true (.t 2),none⟩,⟨some 21, .mv (.t 6),none⟩,⟨some 22, .call .deep (.v (.clo F.below_field [] [])) [.t 20, .t 21],none⟩,⟨some 19, .mv (.t 22),none⟩,⟨some 23, .ext (.t 19) 0,none⟩,⟨some 24, .ext (.t 19) 1,none⟩,⟨some 7, .alloc [.av (.bool false), .av (.bool false), .av (.bool false), .av (.bool false), .own 2 [], .av (.bool false), .own 1 [], .own 11 [], .own 12 []],none⟩,⟨none, .store 9 (.t 7) (.t 23),none⟩,⟨some 8, .asg (.t 24),none⟩]
def r5 : List AO := [⟨some 26, .load 12 true (.t 3),none⟩,⟨some 27, .mv (.t 6),none⟩,⟨some 28, .call .deep (.v (.clo F.below_field [] [])) [.t 26, .t 27],none⟩,⟨some 25, .mv (.t 28),none⟩,⟨some 29, .ext (.t 25) 0,none⟩,⟨some 30, .ext (.t 25) 1,none⟩,⟨some 9, .alloc [.av (.bool false), .av (.bool false), .av (.bool false), .av (.bool false), .own 2 [], .av (.bool false), .own 1 [], .own 11 [], .own 12 []],none⟩,⟨none, .store 9 (.t 9) (.t 29),none⟩,⟨some 10, .asg (.t 30),none⟩]
def r6 : List AO := [⟨some 31, .mv (.t 10),none⟩,⟨some 32, .mv (.t 31),none⟩,⟨some 33, .mv (.t 8), some (32, true)⟩,⟨some 34, .un .not (.t 33), some (32, true)⟩,⟨some 35, .pick (.t 32) (.t 34) (.v (.bool false)),none⟩,⟨some 36, .mv (.t 35),none⟩,⟨some 37, .take 9 true (.t 7), some (36, false)⟩,⟨some 38, .take 9 true (.t 9), some (36, false)⟩,⟨some 39, .call .deep (.v (.clo F.below_Below [] [])) [.t 37, .t 38], some (36, false)⟩,⟨some 40, .un .not (.t 39), some (36, false)⟩,⟨some 41, .pick (.t 36) (.v (.bool true)) (.t 40),none⟩]
def r7 : List AO := [⟨some 4, .asg (.v (.bool false)),none⟩]
def r8 : List AO := [⟨some 42, .bin .add (.t 15) (.v (.int .i64 1)),none⟩,⟨some 15, .mv (.t 42),none⟩]
def l1 : AC := .seq (.reg r2 [2, 3, 13, 14, 15, 16]) (.seq (.cond (.t 16) (.skip) (.exit 0)) (.seq (.block 1 (.seq (.reg r3 [2, 3, 6, 13, 14, 15]) (.seq (.reg r4 [2, 3, 6, 7, 8, 13, 14, 15]) (.seq (.reg r5 [2, 3, 7, 8, 9, 10, 13, 14, 15]) (.seq (.reg r6 [2, 3, 13, 14, 15, 41]) (.cond (.t 41) (.seq (.reg r7 [4]) (.ret)) (.skip))))))) (.reg r8 [2, 3, 13, 14, 15])))
def r9 : List AO := [⟨some 43, .fadr 3 (.t 2),none⟩,⟨some 44, .take 9 true (.t 43),none⟩,⟨some 45, .fadr 3 (.t 3),none⟩,⟨some 46, .take 9 true (.t 45),none⟩,⟨some 47, .call .deep (.v (.clo F.below_Below [] [])) [.t 44, .t 46],none⟩,⟨some 4, .asg (.t 47),none⟩]
def body : AC := .seq (.reg r0 [2, 3]) (.seq (.seq (.reg r1 [2, 3, 13, 14, 15]) (.block 0 (.loop [2, 3, 13, 14, 15] l1))) (.seq (.reg r9 [4]) (.ret)))
def fn : AFun := ⟨[.val, .val], 48, [.tmp 4], [], body⟩
end below_lies
namespace below_names
def r0 : List AO := [⟨some 2, .box (.t 0),none⟩,⟨some 3, .box (.t 1),none⟩,⟨some 4, .asgo (.w [.own 1 []] false),none⟩]
def r1 : List Ph := [.bag true [] [6, 7, 9] [(0, ⟨some 5, .fadr 0 (.t 2),none⟩),(1, ⟨some 6, .load 1 false (.t 5),none⟩),(2, ⟨some 7, .call .none (.v (.clo F.slices_Clone_Lstring_string [] [])) [.t 6],none⟩),(3, ⟨some 8, .fadr 0 (.t 3),none⟩),(4, ⟨some 9, .load 1 false (.t 8),none⟩),(5, ⟨some 10, .append 16 1 (.t 7) (.t 9),none⟩)],.one 6 ⟨some 4, .asgo (.t 10),none⟩]
def body : AC := .seq (.reg r0 [2, 3]) (.seq (.dreg r1 [4]) (.ret))
def fn : AFun := ⟨[.val, .val], 11, [.tmp 4], [4], body⟩
end below_names
namespace below_field
def r0 : List AO := [⟨some 2, .box (.t 0),none⟩,⟨some 4, .alloc [.av (.bool false), .av (.bool false), .av (.bool false), .av (.bool false), .own 2 [], .av (.bool false), .own 1 [], .own 11 [], .own 12 []],none⟩,⟨some 5, .asg (.v (.bool false)),none⟩]
def r1 : List AO := [⟨some 9, .fadr 0 (.t 2),none⟩,⟨some 10, .load 1 false (.t 9),none⟩,⟨some 11, .mv (.t 1),none⟩,⟨some 12, .call .deep (.v (.clo F.slices_BinarySearch_Lstring_string [] [])) [.t 10, .t 11],none⟩,⟨some 8, .mv (.t 12),none⟩,⟨some 13, .ext (.t 8) 0,none⟩,⟨some 14, .ext (.t 8) 1,none⟩,⟨some 6, .asg (.t 13),none⟩,⟨some 7, .asg (.t 14),none⟩]
def r2 : List AO := [⟨some 15, .mv (.t 7),none⟩]
def r3 : List Ph := [.bagS [4] [] [20] [(0, ⟨some 16, .fadr 1 (.t 2),none⟩),(1, ⟨some 17, .load 1 false (.t 16),none⟩),(2, ⟨some 18, .mv (.t 6),none⟩),(3, ⟨some 19, .iadr 9 (.t 17) (.t 18),none⟩),(4, ⟨some 20, .load 9 true (.t 19),none⟩),(5, ⟨some 21, .fadr 2 (.t 2),none⟩),(6, ⟨some 22, .load 1 false (.t 21),none⟩),(7, ⟨some 23, .mv (.t 6),none⟩),(8, ⟨some 24, .iadr 1 (.t 22) (.t 23),none⟩),(9, ⟨some 25, .load 1 false (.t 24),none⟩),(10, ⟨none, .store 9 (.t 4) (.t 20),none⟩),(11, ⟨some 5, .asg (.t 25),none⟩)]]
def r4 : List AO := [⟨some 26, .fadr 3 (.t 2),none⟩,⟨some 27, .take 9 true (.t 26),none⟩,⟨none, .store 9 (.t 4) (.t 27),none⟩,⟨some 5, .asg (.v (.bool false)),none⟩]
def body : AC := .seq (.reg r0 [1, 2, 4]) (.seq (.seq (.reg r1 [2, 4, 6, 7]) (.seq (.reg r2 [2, 4, 6, 15]) (.cond (.t 15) (.seq (.dreg r3 [4, 5]) (.ret)) (.skip)))) (.seq (.reg r4 [4, 5]) (.ret)))
def fn : AFun := ⟨[.val, .val], 28, [.cell 4 9 true, .tmp 5], [], body⟩
end below_field
namespace below_unlike_S1
def r0 : List AO := [⟨some 4, .asg (.v (.bool false)),none⟩]
def r1 : List AO := [⟨some 10, .load 12 true (.t 1),none⟩,⟨some 11, .mv (.t 0),none⟩,⟨some 12, .call .deep (.v (.clo F.below_field [] [])) [.t 10, .t 11],none⟩,⟨some 9, .mv (.t 12),none⟩,⟨some 13, .ext (.t 9) 0,none⟩,⟨some 14, .ext (.t 9) 1,none⟩,⟨some 5, .alloc [.av (.bool false), .av (.bool false), .av (.bool false), .av (.bool false), .own 2 [], .av (.bool false), .own 1 [], .own 11 [], .own 12 []],none⟩,⟨none, .store 9 (.t 5) (.t 13),none⟩,⟨some 6, .asg (.t 14),none⟩]
def r2 : List AO := [⟨some 16, .load 12 true (.t 2),none⟩,⟨some 17, .mv (.t 0),none⟩,⟨some 18, .call .deep (.v (.clo F.below_field [] [])) [.t 16, .t 17],none⟩,⟨some 15, .mv (.t 18),none⟩,⟨some 19, .ext (.t 15) 0,none⟩,⟨some 20, .ext (.t 15) 1,none⟩,⟨some 7, .alloc [.av (.bool false), .av (.bool false), .av (.bool false), .av (.bool false), .own 2 [], .av (.bool false), .own 1 [], .own 11 [], .own 12 []],none⟩,⟨none, .store 9 (.t 7) (.t 19),none⟩,⟨some 8, .asg (.t 20),none⟩]
def r3 : List AO := [⟨some 21, .mv (.t 6),none⟩,⟨some 22, .mv (.t 21),none⟩,⟨some 23, .mv (.t 8), some (22, false)⟩,⟨some 24, .pick (.t 22) (.v (.bool true)) (.t 23),none⟩,⟨some 25, .mv (.t 24),none⟩,⟨some 26, .take 9 true (.t 5), some (25, true)⟩,⟨some 27, .take 9 true (.t 7), some (25, true)⟩,⟨some 28, .call .deep (.v (.clo F.below_Apart [] [])) [.t 26, .t 27], some (25, true)⟩,⟨some 29, .pick (.t 25) (.t 28) (.v (.bool false)),none⟩,⟨some 4, .asg (.t 29),none⟩]
def body : AC := .seq (.reg r0 [0, 1, 2]) (.seq (.reg r1 [0, 2, 5, 6]) (.seq (.reg r2 [5, 6, 7, 8]) (.seq (.reg r3 [4]) (.ret))))
def fn : AFun := ⟨[.val, .val, .val], 30, [.tmp 4], [], body⟩
end below_unlike_S1
namespace slices_Clone_Lstring_string
def r0 : List AO := [⟨some 2, .asgo (.w [.own 1 []] false),none⟩]
def r1 : List AO := [⟨some 3, .mv (.t 0),none⟩,⟨some 4, .isnil .sl false (.t 3),none⟩]
def r2 : List AO := [⟨some 2, .asgo (.w [.own 1 []] false),none⟩]
def r3 : List AO := [⟨some 5, .buildS 0 1 [.av (.str [])] [],none⟩,⟨some 6, .mv (.t 0),none⟩,⟨some 7, .append 16 1 (.t 5) (.t 6),none⟩,⟨some 2, .asgo (.t 7),none⟩]
def body : AC := .seq (.reg r0 [0]) (.seq (.seq (.reg r1 [0, 4]) (.cond (.t 4) (.seq (.reg r2 [2]) (.ret)) (.skip))) (.seq (.reg r3 [2]) (.ret)))
def fn : AFun := ⟨[.val], 8, [.tmp 2], [2], body⟩
end slices_Clone_Lstring_string
end Hm
