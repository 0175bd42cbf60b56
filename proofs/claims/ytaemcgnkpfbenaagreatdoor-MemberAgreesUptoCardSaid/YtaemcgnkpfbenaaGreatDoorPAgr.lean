/- The cleaned code of the functions that the law reaches,printed by program. Conditions: none (definitions). -/
import Derived.Test.YtaemcgnkpfbenaaGreatDoorHA
set_option maxRecDepth 100000
namespace Hm
namespace F
abbrev h03_Formed : Nat := 7
abbrev h03_Number : Nat := 17
abbrev h03_UTF : Nat := 18
abbrev h03_Rise : Nat := 19
abbrev h03_All : Nat := 20
abbrev value_Twin : Nat := 22
abbrev h03_width : Nat := 42
abbrev tens_Cmp : Nat := 46
abbrev h03_trail : Nat := 53
abbrev tens_Formed : Nat := 54
abbrev tens_split : Nat := 55
abbrev tens_size : Nat := 56
abbrev cmp_isNaN_string : Nat := 60
abbrev value_Formed : Nat := 63
abbrev value_Get : Nat := 69
abbrev value_empty : Nat := 83
abbrev utf_Valid : Nat := 84
abbrev value_allFormed : Nat := 85
abbrev value_rise : Nat := 86
abbrev slices_Index_Ls : Nat := 91
abbrev slices_BinarySearch_Ls : Nat := 92
abbrev h03_Numbers : Nat := 107
abbrev h03_Texts : Nat := 108
abbrev unicode_utf8_ValidString : Nat := 111
abbrev slices_ContainsFunc_LV : Nat := 112
abbrev value_allFormed_S1 : Nat := 113
abbrev cmp_Less_string : Nat := 117
abbrev slices_isNaN_string : Nat := 118
abbrev slices_IndexFunc_LV : Nat := 124
abbrev unicode_utf8_word_string : Nat := 127
abbrev h09_Formed : Nat := 137
abbrev h09_Bare : Nat := 143
abbrev h09_Spans : Nat := 144
abbrev h09_arrays : Nat := 145
abbrev h09_objects : Nat := 146
abbrev hk_SameStrings : Nat := 156
abbrev h09_bound : Nat := 159
abbrev h09_Never : Nat := 160
abbrev h09_object : Nat := 161
abbrev shape_worth : Nat := 169
abbrev shape_Kinds : Nat := 186
abbrev shape_Formed : Nat := 189
abbrev hk_Fit : Nat := 192
abbrev shape_piece_every : Nat := 205
abbrev shape_piece_nums : Nat := 206
abbrev shape_piece_texts : Nat := 207
abbrev shape_piece_arrays : Nat := 208
abbrev shape_piece_objects : Nat := 209
abbrev hk_PartsOf : Nat := 210
abbrev h09_Has : Nat := 215
abbrev shape_piece_bare : Nat := 218
abbrev shape_rise : Nat := 219
abbrev shape_never : Nat := 220
abbrev hk_SameValue : Nat := 226
abbrev hk_SameValues : Nat := 256
abbrev slices_Contains_Ls : Nat := 361
abbrev l10_MemberKnown : Nat := 433
abbrev l10_whole : Nat := 434
abbrev member_In : Nat := 435
abbrev l10_why : Nat := 436
abbrev l10_word : Nat := 437
abbrev l10_fields : Nat := 438
abbrev member_Why : Nat := 439
abbrev member_formed : Nat := 440
abbrev member_look : Nat := 441
abbrev member_inSpan : Nat := 443
abbrev member_lookArray : Nat := 444
abbrev member_lookObject : Nat := 445
abbrev tens_Of : Nat := 446
abbrev member_lookFields : Nat := 447
abbrev l10_MemberAgrees : Nat := 469
abbrev h08_Step : Nat := 470
abbrev h08_Fits : Nat := 475
abbrev h08_Find : Nat := 476
abbrev h08_IsKey : Nat := 483
abbrev h08_Place : Nat := 484
abbrev h08_Right : Nat := 488
abbrev h05_Right : Nat := 492
abbrev h05_isDigit : Nat := 495
abbrev h05_numeral : Nat := 496
abbrev h02_Valid : Nat := 497
abbrev h05_isLetter : Nat := 498
abbrev h02_Pieces : Nat := 499
abbrev h02_at : Nat := 500
abbrev h02_spelled : Nat := 501
abbrev h02_Encoding : Nat := 502
abbrev h02_same : Nat := 503
abbrev h02_IsRune : Nat := 504
abbrev h02_Size : Nat := 505
abbrev slices_Clone_Ls : Nat := 43
abbrev slices_Clone_LV : Nat := 44
abbrev strconv_Itoa : Nat := 450
abbrev errors_As : Nat := 442
end F
namespace h03_Formed
def r0 : List AO := [⟨some 1,.box (.t 0),none⟩,⟨some 2,.asg (.v (.bool false)),none⟩]
def r1 : List AO := [⟨some 3,.fadr 0 (.t 1),none⟩,⟨some 4,.load 1 false (.t 3),none⟩,⟨some 5,.bin .lss (.t 4) (.v (.int .i64 0)),none⟩,⟨some 6,.mv (.t 5),none⟩,⟨some 7,.fadr 0 (.t 1),some (6,false)⟩,⟨some 8,.load 1 false (.t 7),some (6,false)⟩,⟨some 9,.bin .gtr (.t 8) (.v (.int .i64 6)),some (6,false)⟩,⟨some 10,.pick (.t 6) (.v (.bool true)) (.t 9),none⟩]
def r2 : List AO := [⟨some 2,.asg (.v (.bool false)),none⟩]
def r3 : List AO := [⟨some 11,.fadr 0 (.t 1),none⟩,⟨some 12,.load 1 false (.t 11),none⟩,⟨some 13,.bin .eql (.t 12) (.v (.int .i64 3)),none⟩,⟨some 14,.mv (.t 13),none⟩,⟨some 15,.fadr 1 (.t 1),some (14,true)⟩,⟨some 16,.load 1 false (.t 15),some (14,true)⟩,⟨some 17,.call .deep (.v (.clo F.h03_Number [] [])) [.t 16],some (14,true)⟩,⟨some 18,.un .not (.t 17),some (14,true)⟩,⟨some 19,.pick (.t 14) (.t 18) (.v (.bool false)),none⟩,⟨some 20,.mv (.t 19),none⟩,⟨some 21,.fadr 0 (.t 1),some (20,false)⟩,⟨some 22,.load 1 false (.t 21),some (20,false)⟩,⟨some 23,.bin .neq (.t 22) (.v (.int .i64 3)),some (20,false)⟩,⟨some 24,.mv (.t 23),some (20,false)⟩,⟨some 25,.fadr 1 (.t 1),some (24,true)⟩,⟨some 26,.load 1 false (.t 25),some (24,true)⟩,⟨some 27,.bin .neq (.t 26) (.v (.str [])),some (24,true)⟩,⟨some 28,.pick (.t 24) (.t 27) (.v (.bool false)),some (20,false)⟩,⟨some 29,.pick (.t 20) (.v (.bool true)) (.t 28),none⟩]
def r4 : List AO := [⟨some 2,.asg (.v (.bool false)),none⟩]
def r5 : List AO := [⟨some 30,.fadr 0 (.t 1),none⟩,⟨some 31,.load 1 false (.t 30),none⟩,⟨some 32,.bin .eql (.t 31) (.v (.int .i64 4)),none⟩,⟨some 33,.mv (.t 32),none⟩,⟨some 34,.fadr 2 (.t 1),some (33,true)⟩,⟨some 35,.load 1 false (.t 34),some (33,true)⟩,⟨some 36,.call .deep (.v (.clo F.h03_UTF [] [])) [.t 35],some (33,true)⟩,⟨some 37,.un .not (.t 36),some (33,true)⟩,⟨some 38,.pick (.t 33) (.t 37) (.v (.bool false)),none⟩,⟨some 39,.mv (.t 38),none⟩,⟨some 40,.fadr 0 (.t 1),some (39,false)⟩,⟨some 41,.load 1 false (.t 40),some (39,false)⟩,⟨some 42,.bin .neq (.t 41) (.v (.int .i64 4)),some (39,false)⟩,⟨some 43,.mv (.t 42),some (39,false)⟩,⟨some 44,.fadr 2 (.t 1),some (43,true)⟩,⟨some 45,.load 1 false (.t 44),some (43,true)⟩,⟨some 46,.bin .neq (.t 45) (.v (.str [])),some (43,true)⟩,⟨some 47,.pick (.t 43) (.t 46) (.v (.bool false)),some (39,false)⟩,⟨some 48,.pick (.t 39) (.v (.bool true)) (.t 47),none⟩]
def r6 : List AO := [⟨some 2,.asg (.v (.bool false)),none⟩]
def r7 : List AO := [⟨some 49,.fadr 0 (.t 1),none⟩,⟨some 50,.load 1 false (.t 49),none⟩,⟨some 51,.bin .lss (.t 50) (.v (.int .i64 5)),none⟩,⟨some 52,.mv (.t 51),none⟩,⟨some 53,.fadr 3 (.t 1),some (52,true)⟩,⟨some 54,.load 1 false (.t 53),some (52,true)⟩,⟨some 55,.len false (.t 54),some (52,true)⟩,⟨some 56,.bin .gtr (.t 55) (.v (.int .i64 0)),some (52,true)⟩,⟨some 57,.pick (.t 52) (.t 56) (.v (.bool false)),none⟩,⟨some 58,.mv (.t 57),none⟩,⟨some 59,.fadr 0 (.t 1),some (58,false)⟩,⟨some 60,.load 1 false (.t 59),some (58,false)⟩,⟨some 61,.bin .lss (.t 60) (.v (.int .i64 6)),some (58,false)⟩,⟨some 62,.mv (.t 61),some (58,false)⟩,⟨some 63,.fadr 4 (.t 1),some (62,true)⟩,⟨some 64,.load 1 false (.t 63),some (62,true)⟩,⟨some 65,.len false (.t 64),some (62,true)⟩,⟨some 66,.bin .gtr (.t 65) (.v (.int .i64 0)),some (62,true)⟩,⟨some 67,.pick (.t 62) (.t 66) (.v (.bool false)),some (58,false)⟩,⟨some 68,.pick (.t 58) (.v (.bool true)) (.t 67),none⟩]
def r8 : List AO := [⟨some 2,.asg (.v (.bool false)),none⟩]
def r9 : List AO := [⟨some 69,.fadr 0 (.t 1),none⟩,⟨some 70,.load 1 false (.t 69),none⟩,⟨some 71,.bin .eql (.t 70) (.v (.int .i64 6)),none⟩,⟨some 72,.mv (.t 71),none⟩,⟨some 73,.fadr 4 (.t 1),some (72,true)⟩,⟨some 74,.load 1 false (.t 73),some (72,true)⟩,⟨some 75,.len false (.t 74),some (72,true)⟩,⟨some 76,.fadr 3 (.t 1),some (72,true)⟩,⟨some 77,.load 1 false (.t 76),some (72,true)⟩,⟨some 78,.len false (.t 77),some (72,true)⟩,⟨some 79,.bin .neq (.t 75) (.t 78),some (72,true)⟩,⟨some 80,.mv (.t 79),some (72,true)⟩,⟨some 81,.fadr 4 (.t 1),some (80,false)⟩,⟨some 82,.load 1 false (.t 81),some (80,false)⟩,⟨some 83,.call .deep (.v (.clo F.h03_Rise [] [])) [.t 82],some (80,false)⟩,⟨some 84,.un .not (.t 83),some (80,false)⟩,⟨some 85,.pick (.t 80) (.v (.bool true)) (.t 84),some (72,true)⟩,⟨some 86,.pick (.t 72) (.t 85) (.v (.bool false)),none⟩]
def r10 : List AO := [⟨some 2,.asg (.v (.bool false)),none⟩]
def r11 : List AO := [⟨some 87,.fadr 3 (.t 1),none⟩,⟨some 88,.take 1 false (.t 87),none⟩,⟨some 89,.call .deep (.v (.clo F.h03_All [] [])) [.t 88],none⟩,⟨some 2,.asg (.t 89),none⟩]
def body : AC := .seq (.reg r0 [1]) (.seq (.seq (.reg r1 [1,10]) (.cond (.t 10) (.seq (.reg r2 [2]) (.ret)) (.skip))) (.seq (.seq (.reg r3 [1,29]) (.cond (.t 29) (.seq (.reg r4 [2]) (.ret)) (.skip))) (.seq (.seq (.reg r5 [1,48]) (.cond (.t 48) (.seq (.reg r6 [2]) (.ret)) (.skip))) (.seq (.seq (.reg r7 [1,68]) (.cond (.t 68) (.seq (.reg r8 [2]) (.ret)) (.skip))) (.seq (.seq (.reg r9 [1,86]) (.cond (.t 86) (.seq (.reg r10 [2]) (.ret)) (.skip))) (.seq (.reg r11 [2]) (.ret)))))))
def fn : AFun := ⟨[.val],90,[.tmp 2],[],body⟩
end h03_Formed
namespace h03_Number
def r0 : List AO := [⟨some 2,.asg (.v (.bool false)),none⟩]
def r1 : List AO := [⟨some 5,.mv (.t 0),none⟩,⟨some 3,.asg (.t 5),none⟩]
def r2 : List AO := [⟨some 6,.mv (.t 0),none⟩,⟨some 7,.len true (.t 6),none⟩,⟨some 8,.bin .gtr (.t 7) (.v (.int .i64 0)),none⟩,⟨some 9,.mv (.t 8),none⟩,⟨some 10,.mv (.t 0),some (9,true)⟩,⟨some 11,.idxS (.t 10) (.v (.int .i64 0)),some (9,true)⟩,⟨some 12,.bin .eql (.t 11) (.v (.int .u8 45)),some (9,true)⟩,⟨some 13,.pick (.t 9) (.t 12) (.v (.bool false)),none⟩]
def r3 : List AO := [⟨some 14,.mv (.t 0),none⟩,⟨some 15,.slc true 1 (.t 14) (some (.v (.int .i64 1))) none,none⟩,⟨some 3,.asg (.t 15),none⟩]
def r4 : List AO := [⟨some 4,.asg (.v (.int .i64 0)),none⟩]
def r5 : List AO := [⟨some 16,.mv (.t 4),none⟩,⟨some 17,.mv (.t 3),none⟩,⟨some 18,.len true (.t 17),none⟩,⟨some 19,.bin .lss (.t 16) (.t 18),none⟩]
def r7 : List AO := [⟨some 22,.mv (.t 3),none⟩,⟨some 23,.mv (.t 4),none⟩,⟨some 24,.idxS (.t 22) (.t 23),none⟩,⟨some 25,.bin .lss (.t 24) (.v (.int .u8 48)),none⟩,⟨some 26,.mv (.t 25),none⟩,⟨some 27,.mv (.t 3),some (26,false)⟩,⟨some 28,.mv (.t 4),some (26,false)⟩,⟨some 29,.idxS (.t 27) (.t 28),some (26,false)⟩,⟨some 30,.bin .gtr (.t 29) (.v (.int .u8 57)),some (26,false)⟩,⟨some 31,.pick (.t 26) (.v (.bool true)) (.t 30),none⟩]
def r8 : List AO := [⟨some 2,.asg (.v (.bool false)),none⟩]
def r6 : List AO := [⟨some 20,.mv (.t 4),none⟩,⟨some 21,.bin .add (.t 20) (.v (.int .i64 1)),none⟩,⟨some 4,.asg (.t 21),none⟩]
def l1 : AC := .seq (.seq (.reg r5 [0,3,4,19]) (.cond (.t 19) (.skip) (.exit 0))) (.seq (.block 1 (.seq (.reg r7 [0,3,4,31]) (.cond (.t 31) (.seq (.reg r8 [2]) (.ret)) (.skip)))) (.reg r6 [0,3,4]))
def r9 : List AO := [⟨some 32,.mv (.t 3),none⟩,⟨some 33,.len true (.t 32),none⟩,⟨some 34,.bin .eql (.t 33) (.v (.int .i64 0)),none⟩,⟨some 35,.mv (.t 34),none⟩,⟨some 36,.mv (.t 3),some (35,false)⟩,⟨some 37,.idxS (.t 36) (.v (.int .i64 0)),some (35,false)⟩,⟨some 38,.bin .eql (.t 37) (.v (.int .u8 48)),some (35,false)⟩,⟨some 39,.mv (.t 38),some (35,false)⟩,⟨some 40,.mv (.t 0),some (39,true)⟩,⟨some 41,.bin .neq (.t 40) (.v (.str [48])),some (39,true)⟩,⟨some 42,.pick (.t 39) (.t 41) (.v (.bool false)),some (35,false)⟩,⟨some 43,.pick (.t 35) (.v (.bool true)) (.t 42),none⟩]
def r10 : List AO := [⟨some 2,.asg (.v (.bool false)),none⟩]
def r11 : List AO := [⟨some 2,.asg (.v (.bool true)),none⟩]
def body : AC := .seq (.reg r0 [0]) (.seq (.reg r1 [0,3]) (.seq (.seq (.reg r2 [0,3,13]) (.cond (.t 13) (.reg r3 [0,3]) (.skip))) (.seq (.seq (.reg r4 [0,3,4]) (.block 0 (.loop [0,3,4] l1))) (.seq (.seq (.reg r9 [43]) (.cond (.t 43) (.seq (.reg r10 [2]) (.ret)) (.skip))) (.seq (.reg r11 [2]) (.ret))))))
def fn : AFun := ⟨[.val],44,[.tmp 2],[],body⟩
end h03_Number
namespace h03_UTF
def r0 : List AO := [⟨some 2,.asg (.v (.bool false)),none⟩]
def r1 : List AO := [⟨some 3,.asg (.v (.int .i64 0)),none⟩]
def r2 : List AO := [⟨some 5,.mv (.t 3),none⟩,⟨some 6,.mv (.t 0),none⟩,⟨some 7,.len true (.t 6),none⟩,⟨some 8,.bin .lss (.t 5) (.t 7),none⟩]
def r3 : List AO := [⟨some 9,.mv (.t 0),none⟩,⟨some 10,.mv (.t 3),none⟩,⟨some 11,.call .deep (.v (.clo F.h03_width [] [])) [.t 9,.t 10],none⟩,⟨some 4,.asg (.t 11),none⟩]
def r4 : List AO := [⟨some 12,.mv (.t 4),none⟩,⟨some 13,.bin .eql (.t 12) (.v (.int .i64 0)),none⟩]
def r5 : List AO := [⟨some 2,.asg (.v (.bool false)),none⟩]
def r6 : List AO := [⟨some 14,.mv (.t 3),none⟩,⟨some 15,.mv (.t 4),none⟩,⟨some 16,.bin .add (.t 14) (.t 15),none⟩,⟨some 3,.asg (.t 16),none⟩]
def l1 : AC := .seq (.seq (.reg r2 [0,3,8]) (.cond (.t 8) (.skip) (.exit 0))) (.block 1 (.seq (.reg r3 [0,3,4]) (.seq (.seq (.reg r4 [0,3,4,13]) (.cond (.t 13) (.seq (.reg r5 [2]) (.ret)) (.skip))) (.reg r6 [0,3]))))
def r7 : List AO := [⟨some 2,.asg (.v (.bool true)),none⟩]
def body : AC := .seq (.reg r0 [0]) (.seq (.seq (.reg r1 [0,3]) (.block 0 (.loop [0,3] l1))) (.seq (.reg r7 [2]) (.ret)))
def fn : AFun := ⟨[.val],17,[.tmp 2],[],body⟩
end h03_UTF
namespace h03_Rise
def r0 : List AO := [⟨some 2,.asg (.v (.bool false)),none⟩]
def r1 : List AO := [⟨some 3,.asg (.v (.int .i64 0)),none⟩]
def r2 : List AO := [⟨some 4,.mv (.t 3),none⟩,⟨some 5,.mv (.t 0),none⟩,⟨some 6,.len false (.t 5),none⟩,⟨some 7,.bin .lss (.t 4) (.t 6),none⟩]
def r4 : List AO := [⟨some 10,.mv (.t 0),none⟩,⟨some 11,.mv (.t 3),none⟩,⟨some 12,.iadr 1 (.t 10) (.t 11),none⟩,⟨some 13,.load 1 false (.t 12),none⟩,⟨some 14,.call .deep (.v (.clo F.h03_UTF [] [])) [.t 13],none⟩,⟨some 15,.un .not (.t 14),none⟩]
def r5 : List AO := [⟨some 2,.asg (.v (.bool false)),none⟩]
def r6 : List Ph := [.bag false [] [] [(0,⟨some 16,.mv (.t 3),none⟩),(1,⟨some 17,.bin .gtr (.t 16) (.v (.int .i64 0)),none⟩),(2,⟨some 18,.mv (.t 17),none⟩),(3,⟨some 19,.mv (.t 0),some (18,true)⟩),(4,⟨some 20,.mv (.t 3),some (18,true)⟩),(5,⟨some 21,.bin .sub (.t 20) (.v (.int .i64 1)),some (18,true)⟩),(6,⟨some 22,.iadr 1 (.t 19) (.t 21),some (18,true)⟩),(7,⟨some 23,.load 1 false (.t 22),some (18,true)⟩),(8,⟨some 24,.mv (.t 0),some (18,true)⟩),(9,⟨some 25,.mv (.t 3),some (18,true)⟩),(10,⟨some 26,.iadr 1 (.t 24) (.t 25),some (18,true)⟩),(11,⟨some 27,.load 1 false (.t 26),some (18,true)⟩),(12,⟨some 28,.bin .geq (.t 23) (.t 27),some (18,true)⟩),(13,⟨some 29,.pick (.t 18) (.t 28) (.v (.bool false)),none⟩)]]
def r7 : List AO := [⟨some 2,.asg (.v (.bool false)),none⟩]
def r3 : List AO := [⟨some 8,.mv (.t 3),none⟩,⟨some 9,.bin .add (.t 8) (.v (.int .i64 1)),none⟩,⟨some 3,.asg (.t 9),none⟩]
def l1 : AC := .seq (.seq (.reg r2 [0,3,7]) (.cond (.t 7) (.skip) (.exit 0))) (.seq (.block 1 (.seq (.seq (.reg r4 [0,3,15]) (.cond (.t 15) (.seq (.reg r5 [2]) (.ret)) (.skip))) (.seq (.dreg r6 [0,3,29]) (.cond (.t 29) (.seq (.reg r7 [2]) (.ret)) (.skip))))) (.reg r3 [0,3]))
def r8 : List AO := [⟨some 2,.asg (.v (.bool true)),none⟩]
def body : AC := .seq (.reg r0 [0]) (.seq (.seq (.reg r1 [0,3]) (.block 0 (.loop [0,3] l1))) (.seq (.reg r8 [2]) (.ret)))
def fn : AFun := ⟨[.val],30,[.tmp 2],[],body⟩
end h03_Rise
namespace h03_All
def r0 : List AO := [⟨some 2,.asg (.v (.bool false)),none⟩]
def r1 : List AO := [⟨some 3,.asg (.v (.int .i64 0)),none⟩]
def r2 : List AO := [⟨some 4,.mv (.t 3),none⟩,⟨some 5,.mv (.t 0),none⟩,⟨some 6,.len false (.t 5),none⟩,⟨some 7,.bin .lss (.t 4) (.t 6),none⟩]
def r4 : List AO := [⟨some 10,.mv (.t 0),none⟩,⟨some 11,.mv (.t 3),none⟩,⟨some 12,.iadr 5 (.t 10) (.t 11),none⟩,⟨some 13,.load 5 true (.t 12),none⟩,⟨some 14,.call .deep (.v (.clo F.h03_Formed [] [])) [.t 13],none⟩,⟨some 15,.un .not (.t 14),none⟩]
def r5 : List AO := [⟨some 2,.asg (.v (.bool false)),none⟩]
def r3 : List AO := [⟨some 8,.mv (.t 3),none⟩,⟨some 9,.bin .add (.t 8) (.v (.int .i64 1)),none⟩,⟨some 3,.asg (.t 9),none⟩]
def l1 : AC := .seq (.seq (.reg r2 [0,3,7]) (.cond (.t 7) (.skip) (.exit 0))) (.seq (.block 1 (.seq (.reg r4 [0,3,15]) (.cond (.t 15) (.seq (.reg r5 [2]) (.ret)) (.skip)))) (.reg r3 [0,3]))
def r6 : List AO := [⟨some 2,.asg (.v (.bool true)),none⟩]
def body : AC := .seq (.reg r0 [0]) (.seq (.seq (.reg r1 [0,3]) (.block 0 (.loop [0,3] l1))) (.seq (.reg r6 [2]) (.ret)))
def fn : AFun := ⟨[.val],16,[.tmp 2],[],body⟩
end h03_All
namespace value_Twin
def r0 : List AO := [⟨some 1,.box (.t 0),none⟩,⟨some 2,.alloc [.av (.int .i64 0),.av (.str []),.av (.str []),.own 5 [],.own 1 []],none⟩]
def r1 : List AO := [⟨some 4,.fadr 4 (.t 1),none⟩,⟨some 5,.load 1 false (.t 4),none⟩,⟨some 6,.call .none (.v (.clo F.slices_Clone_Ls [] [])) [.t 5],none⟩,⟨some 7,.fadr 4 (.t 1),none⟩,⟨none,.store 1 (.t 7) (.t 6),none⟩]
def r2 : List AO := [⟨some 8,.fadr 3 (.t 1),none⟩,⟨some 9,.load 1 false (.t 8),none⟩,⟨some 10,.call .none (.v (.clo F.slices_Clone_LV [] [])) [.t 9],none⟩,⟨some 11,.fadr 3 (.t 1),none⟩,⟨none,.store 1 (.t 11) (.t 10),none⟩]
def r3 : List AO := [⟨some 12,.fadr 3 (.t 1),none⟩,⟨some 13,.load 1 false (.t 12),none⟩,⟨some 14,.len false (.t 13),none⟩,⟨some 15,.mv (.v (.int .i64 0)),none⟩]
def r4 : List AO := [⟨some 16,.bin .lss (.t 15) (.t 14),none⟩]
def r5 : List AO := [⟨some 17,.mv (.t 15),none⟩,⟨some 3,.asg (.t 17),none⟩]
def r6 : List Ph := [.bag false [] [25] [(0,⟨some 18,.fadr 3 (.t 1),none⟩),(1,⟨some 19,.load 1 false (.t 18),none⟩),(2,⟨some 20,.mv (.t 3),none⟩),(3,⟨some 21,.fadr 3 (.t 1),none⟩),(4,⟨some 22,.load 1 false (.t 21),none⟩),(5,⟨some 23,.mv (.t 3),none⟩),(6,⟨some 24,.iadr 5 (.t 22) (.t 23),none⟩),(7,⟨some 25,.load 5 true (.t 24),none⟩),(8,⟨some 26,.call .none (.v (.clo F.value_Twin [] [])) [.t 25],none⟩),(9,⟨some 27,.iadr 5 (.t 19) (.t 20),none⟩)],.one 10 ⟨none,.store 5 (.t 27) (.t 26),none⟩]
def r7 : List AO := [⟨some 28,.bin .add (.t 15) (.v (.int .i64 1)),none⟩,⟨some 15,.mv (.t 28),none⟩]
def l1 : AC := .seq (.reg r4 [1,2,14,15,16]) (.seq (.cond (.t 16) (.skip) (.exit 0)) (.seq (.block 1 (.seq (.reg r5 [1,2,3,14,15]) (.dreg r6 [1,2,14,15]))) (.reg r7 [1,2,14,15])))
def r8 : List AO := [⟨some 29,.take 5 true (.t 1),none⟩,⟨none,.store 5 (.t 2) (.t 29),none⟩]
def body : AC := .seq (.reg r0 [1,2]) (.seq (.reg r1 [1,2]) (.seq (.reg r2 [1,2]) (.seq (.seq (.reg r3 [1,2,14,15]) (.block 0 (.loop [1,2,14,15] l1))) (.seq (.reg r8 [2]) (.ret)))))
def fn : AFun := ⟨[.val],30,[.cell 2 5 true],[],body⟩
end value_Twin
namespace h03_width
def r0 : List AO := [⟨some 4,.asg (.v (.int .i64 0)),none⟩]
def r1 : List AO := [⟨some 8,.mv (.t 0),none⟩,⟨some 9,.mv (.t 1),none⟩,⟨some 10,.idxS (.t 8) (.t 9),none⟩,⟨some 5,.asg (.t 10),none⟩]
def r2 : List AO := [⟨some 11,.mv (.t 5),none⟩,⟨some 12,.bin .lss (.t 11) (.v (.int .u8 128)),none⟩]
def r3 : List AO := [⟨some 4,.asg (.v (.int .i64 1)),none⟩]
def r4 : List AO := [⟨some 13,.mv (.t 5),none⟩,⟨some 14,.bin .geq (.t 13) (.v (.int .u8 194)),none⟩,⟨some 15,.mv (.t 14),none⟩,⟨some 16,.mv (.t 5),some (15,true)⟩,⟨some 17,.bin .leq (.t 16) (.v (.int .u8 223)),some (15,true)⟩,⟨some 18,.pick (.t 15) (.t 17) (.v (.bool false)),none⟩,⟨some 19,.mv (.t 18),none⟩,⟨some 20,.mv (.t 0),some (19,true)⟩,⟨some 21,.mv (.t 1),some (19,true)⟩,⟨some 22,.bin .add (.t 21) (.v (.int .i64 1)),some (19,true)⟩,⟨some 23,.call .deep (.v (.clo F.h03_trail [] [])) [.t 20,.t 22,.v (.int .i64 1),.v (.int .u8 128),.v (.int .u8 191)],some (19,true)⟩,⟨some 24,.pick (.t 19) (.t 23) (.v (.bool false)),none⟩]
def r5 : List AO := [⟨some 4,.asg (.v (.int .i64 2)),none⟩]
def r6 : List AO := [⟨some 6,.asg (.v (.int .u8 128)),none⟩]
def r7 : List AO := [⟨some 7,.asg (.v (.int .u8 191)),none⟩]
def r8 : List AO := [⟨some 25,.mv (.t 5),none⟩,⟨some 26,.bin .eql (.t 25) (.v (.int .u8 224)),none⟩]
def r9 : List AO := [⟨some 6,.asg (.v (.int .u8 160)),none⟩]
def r10 : List AO := [⟨some 27,.mv (.t 5),none⟩,⟨some 28,.bin .eql (.t 27) (.v (.int .u8 237)),none⟩]
def r11 : List AO := [⟨some 7,.asg (.v (.int .u8 159)),none⟩]
def r12 : List AO := [⟨some 29,.mv (.t 5),none⟩,⟨some 30,.bin .eql (.t 29) (.v (.int .u8 240)),none⟩]
def r13 : List AO := [⟨some 6,.asg (.v (.int .u8 144)),none⟩]
def r14 : List AO := [⟨some 31,.mv (.t 5),none⟩,⟨some 32,.bin .eql (.t 31) (.v (.int .u8 244)),none⟩]
def r15 : List AO := [⟨some 7,.asg (.v (.int .u8 143)),none⟩]
def r16 : List AO := [⟨some 33,.mv (.t 5),none⟩,⟨some 34,.bin .geq (.t 33) (.v (.int .u8 224)),none⟩,⟨some 35,.mv (.t 34),none⟩,⟨some 36,.mv (.t 5),some (35,true)⟩,⟨some 37,.bin .leq (.t 36) (.v (.int .u8 239)),some (35,true)⟩,⟨some 38,.pick (.t 35) (.t 37) (.v (.bool false)),none⟩,⟨some 39,.mv (.t 38),none⟩,⟨some 40,.mv (.t 0),some (39,true)⟩,⟨some 41,.mv (.t 1),some (39,true)⟩,⟨some 42,.bin .add (.t 41) (.v (.int .i64 1)),some (39,true)⟩,⟨some 43,.mv (.t 6),some (39,true)⟩,⟨some 44,.mv (.t 7),some (39,true)⟩,⟨some 45,.call .deep (.v (.clo F.h03_trail [] [])) [.t 40,.t 42,.v (.int .i64 2),.t 43,.t 44],some (39,true)⟩,⟨some 46,.pick (.t 39) (.t 45) (.v (.bool false)),none⟩]
def r17 : List AO := [⟨some 4,.asg (.v (.int .i64 3)),none⟩]
def r18 : List AO := [⟨some 47,.mv (.t 5),none⟩,⟨some 48,.bin .geq (.t 47) (.v (.int .u8 240)),none⟩,⟨some 49,.mv (.t 48),none⟩,⟨some 50,.mv (.t 5),some (49,true)⟩,⟨some 51,.bin .leq (.t 50) (.v (.int .u8 244)),some (49,true)⟩,⟨some 52,.pick (.t 49) (.t 51) (.v (.bool false)),none⟩,⟨some 53,.mv (.t 52),none⟩,⟨some 54,.mv (.t 0),some (53,true)⟩,⟨some 55,.mv (.t 1),some (53,true)⟩,⟨some 56,.bin .add (.t 55) (.v (.int .i64 1)),some (53,true)⟩,⟨some 57,.mv (.t 6),some (53,true)⟩,⟨some 58,.mv (.t 7),some (53,true)⟩,⟨some 59,.call .deep (.v (.clo F.h03_trail [] [])) [.t 54,.t 56,.v (.int .i64 3),.t 57,.t 58],some (53,true)⟩,⟨some 60,.pick (.t 53) (.t 59) (.v (.bool false)),none⟩]
def r19 : List AO := [⟨some 4,.asg (.v (.int .i64 4)),none⟩]
def r20 : List AO := [⟨some 4,.asg (.v (.int .i64 0)),none⟩]
def body : AC := .seq (.reg r0 [0,1]) (.seq (.reg r1 [0,1,5]) (.seq (.seq (.reg r2 [0,1,5,12]) (.cond (.t 12) (.seq (.reg r3 [4]) (.ret)) (.skip))) (.seq (.seq (.reg r4 [0,1,5,24]) (.cond (.t 24) (.seq (.reg r5 [4]) (.ret)) (.skip))) (.seq (.reg r6 [0,1,5,6]) (.seq (.reg r7 [0,1,5,6,7]) (.seq (.seq (.reg r8 [0,1,5,6,7,26]) (.cond (.t 26) (.reg r9 [0,1,5,6,7]) (.skip))) (.seq (.seq (.reg r10 [0,1,5,6,7,28]) (.cond (.t 28) (.reg r11 [0,1,5,6,7]) (.skip))) (.seq (.seq (.reg r12 [0,1,5,6,7,30]) (.cond (.t 30) (.reg r13 [0,1,5,6,7]) (.skip))) (.seq (.seq (.reg r14 [0,1,5,6,7,32]) (.cond (.t 32) (.reg r15 [0,1,5,6,7]) (.skip))) (.seq (.seq (.reg r16 [0,1,5,6,7,46]) (.cond (.t 46) (.seq (.reg r17 [4]) (.ret)) (.skip))) (.seq (.seq (.reg r18 [60]) (.cond (.t 60) (.seq (.reg r19 [4]) (.ret)) (.skip))) (.seq (.reg r20 [4]) (.ret)))))))))))))
def fn : AFun := ⟨[.val,.val],61,[.tmp 4],[],body⟩
end h03_width
namespace tens_Cmp
def r0 : List AO := [⟨some 4,.asg (.v (.int .i64 0)),none⟩,⟨some 5,.asg (.v (.int .i64 0)),none⟩]
def r1 : List AO := [⟨some 10,.mv (.t 0),none⟩,⟨some 11,.call .deep (.v (.clo F.tens_Formed [] [])) [.t 10],none⟩,⟨some 12,.un .not (.t 11),none⟩,⟨some 13,.mv (.t 12),none⟩,⟨some 14,.mv (.t 1),some (13,false)⟩,⟨some 15,.call .deep (.v (.clo F.tens_Formed [] [])) [.t 14],some (13,false)⟩,⟨some 16,.un .not (.t 15),some (13,false)⟩,⟨some 17,.pick (.t 13) (.v (.bool true)) (.t 16),none⟩]
def r2 : List AO := [⟨some 4,.asg (.v (.int .i64 0)),none⟩,⟨some 5,.asg (.v (.int .i64 1)),none⟩]
def r3 : List AO := [⟨some 19,.mv (.t 0),none⟩,⟨some 20,.call .deep (.v (.clo F.tens_split [] [])) [.t 19],none⟩,⟨some 18,.mv (.t 20),none⟩,⟨some 21,.ext (.t 18) 0,none⟩,⟨some 22,.ext (.t 18) 1,none⟩,⟨some 6,.asg (.t 21),none⟩,⟨some 7,.asg (.t 22),none⟩]
def r4 : List AO := [⟨some 24,.mv (.t 1),none⟩,⟨some 25,.call .deep (.v (.clo F.tens_split [] [])) [.t 24],none⟩,⟨some 23,.mv (.t 25),none⟩,⟨some 26,.ext (.t 23) 0,none⟩,⟨some 27,.ext (.t 23) 1,none⟩,⟨some 8,.asg (.t 26),none⟩,⟨some 9,.asg (.t 27),none⟩]
def r5 : List AO := [⟨some 29,.mv (.t 6),none⟩,⟨some 30,.mv (.t 29),none⟩,⟨some 31,.mv (.t 8),some (30,true)⟩,⟨some 32,.pick (.t 30) (.t 31) (.v (.bool false)),none⟩,⟨some 28,.asg (.t 32),none⟩]
def r6 : List AO := [⟨some 33,.mv (.t 9),none⟩,⟨some 34,.mv (.t 7),none⟩,⟨some 35,.call .deep (.v (.clo F.tens_size [] [])) [.t 33,.t 34],none⟩,⟨some 4,.asg (.t 35),none⟩,⟨some 5,.asg (.v (.int .i64 0)),none⟩]
def r7 : List AO := [⟨some 37,.mv (.t 6),none⟩,⟨some 36,.asg (.t 37),none⟩]
def r8 : List AO := [⟨some 4,.asg (.v (.int .i64 (-1))),none⟩,⟨some 5,.asg (.v (.int .i64 0)),none⟩]
def r9 : List AO := [⟨some 39,.mv (.t 8),none⟩,⟨some 38,.asg (.t 39),none⟩]
def r10 : List AO := [⟨some 4,.asg (.v (.int .i64 1)),none⟩,⟨some 5,.asg (.v (.int .i64 0)),none⟩]
def r11 : List AO := [⟨some 40,.mv (.t 7),none⟩,⟨some 41,.mv (.t 9),none⟩,⟨some 42,.call .deep (.v (.clo F.tens_size [] [])) [.t 40,.t 41],none⟩,⟨some 4,.asg (.t 42),none⟩,⟨some 5,.asg (.v (.int .i64 0)),none⟩]
def body : AC := .seq (.reg r0 [0,1]) (.seq (.seq (.reg r1 [0,1,17]) (.cond (.t 17) (.seq (.reg r2 [4,5]) (.ret)) (.skip))) (.seq (.reg r3 [1,6,7]) (.seq (.reg r4 [6,7,8,9]) (.seq (.block 0 (.seq (.reg r5 [6,7,8,9,28]) (.cond (.t 28) (.seq (.reg r6 [4,5]) (.ret)) (.seq (.reg r7 [7,8,9,36]) (.cond (.t 36) (.seq (.reg r8 [4,5]) (.ret)) (.seq (.reg r9 [7,9,38]) (.cond (.t 38) (.seq (.reg r10 [4,5]) (.ret)) (.skip)))))))) (.seq (.reg r11 [4,5]) (.ret))))))
def fn : AFun := ⟨[.val,.val],43,[.tmp 4,.tmp 5],[],body⟩
end tens_Cmp
namespace h03_trail
def r0 : List AO := [⟨some 10,.asg (.v (.bool false)),none⟩]
def r1 : List AO := [⟨some 12,.mv (.t 1),none⟩,⟨some 13,.mv (.t 2),none⟩,⟨some 14,.bin .add (.t 12) (.t 13),none⟩,⟨some 15,.mv (.t 0),none⟩,⟨some 16,.len true (.t 15),none⟩,⟨some 17,.bin .gtr (.t 14) (.t 16),none⟩]
def r2 : List AO := [⟨some 10,.asg (.v (.bool false)),none⟩]
def r3 : List AO := [⟨some 11,.asg (.v (.int .i64 0)),none⟩]
def r4 : List AO := [⟨some 18,.mv (.t 11),none⟩,⟨some 19,.mv (.t 2),none⟩,⟨some 20,.bin .lss (.t 18) (.t 19),none⟩]
def r6 : List AO := [⟨some 23,.mv (.t 0),none⟩,⟨some 24,.mv (.t 1),none⟩,⟨some 25,.mv (.t 11),none⟩,⟨some 26,.bin .add (.t 24) (.t 25),none⟩,⟨some 27,.idxS (.t 23) (.t 26),none⟩,⟨some 28,.bin .lss (.t 27) (.v (.int .u8 128)),none⟩,⟨some 29,.mv (.t 28),none⟩,⟨some 30,.mv (.t 0),some (29,false)⟩,⟨some 31,.mv (.t 1),some (29,false)⟩,⟨some 32,.mv (.t 11),some (29,false)⟩,⟨some 33,.bin .add (.t 31) (.t 32),some (29,false)⟩,⟨some 34,.idxS (.t 30) (.t 33),some (29,false)⟩,⟨some 35,.bin .gtr (.t 34) (.v (.int .u8 191)),some (29,false)⟩,⟨some 36,.pick (.t 29) (.v (.bool true)) (.t 35),none⟩]
def r7 : List AO := [⟨some 10,.asg (.v (.bool false)),none⟩]
def r5 : List AO := [⟨some 21,.mv (.t 11),none⟩,⟨some 22,.bin .add (.t 21) (.v (.int .i64 1)),none⟩,⟨some 11,.asg (.t 22),none⟩]
def l1 : AC := .seq (.seq (.reg r4 [0,1,2,3,4,11,20]) (.cond (.t 20) (.skip) (.exit 0))) (.seq (.block 1 (.seq (.reg r6 [0,1,2,3,4,11,36]) (.cond (.t 36) (.seq (.reg r7 [10]) (.ret)) (.skip)))) (.reg r5 [0,1,2,3,4,11]))
def r8 : List AO := [⟨some 37,.mv (.t 0),none⟩,⟨some 38,.mv (.t 1),none⟩,⟨some 39,.idxS (.t 37) (.t 38),none⟩,⟨some 40,.mv (.t 3),none⟩,⟨some 41,.bin .geq (.t 39) (.t 40),none⟩,⟨some 42,.mv (.t 41),none⟩,⟨some 43,.mv (.t 0),some (42,true)⟩,⟨some 44,.mv (.t 1),some (42,true)⟩,⟨some 45,.idxS (.t 43) (.t 44),some (42,true)⟩,⟨some 46,.mv (.t 4),some (42,true)⟩,⟨some 47,.bin .leq (.t 45) (.t 46),some (42,true)⟩,⟨some 48,.pick (.t 42) (.t 47) (.v (.bool false)),none⟩,⟨some 10,.asg (.t 48),none⟩]
def body : AC := .seq (.reg r0 [0,1,2,3,4]) (.seq (.seq (.reg r1 [0,1,2,3,4,17]) (.cond (.t 17) (.seq (.reg r2 [10]) (.ret)) (.skip))) (.seq (.seq (.reg r3 [0,1,2,3,4,11]) (.block 0 (.loop [0,1,2,3,4,11] l1))) (.seq (.reg r8 [10]) (.ret))))
def fn : AFun := ⟨[.val,.val,.val,.val,.val],49,[.tmp 10],[],body⟩
end h03_trail
namespace tens_Formed
def r0 : List AO := [⟨some 2,.asg (.v (.bool false)),none⟩]
def r1 : List AO := [⟨some 4,.mv (.t 0),none⟩,⟨some 5,.bin .eql (.t 4) (.v (.str [48])),none⟩]
def r2 : List AO := [⟨some 2,.asg (.v (.bool true)),none⟩]
def r3 : List AO := [⟨some 6,.mv (.t 0),none⟩,⟨some 7,.bin .neq (.t 6) (.v (.str [])),none⟩,⟨some 8,.mv (.t 7),none⟩,⟨some 9,.mv (.t 0),some (8,true)⟩,⟨some 10,.idxS (.t 9) (.v (.int .i64 0)),some (8,true)⟩,⟨some 11,.bin .eql (.t 10) (.v (.int .u8 45)),some (8,true)⟩,⟨some 12,.pick (.t 8) (.t 11) (.v (.bool false)),none⟩]
def r4 : List AO := [⟨some 13,.mv (.t 0),none⟩,⟨some 14,.slc true 1 (.t 13) (some (.v (.int .i64 1))) none,none⟩,⟨some 0,.asg (.t 14),none⟩]
def r5 : List AO := [⟨some 15,.mv (.t 0),none⟩,⟨some 16,.bin .eql (.t 15) (.v (.str [])),none⟩,⟨some 17,.mv (.t 16),none⟩,⟨some 18,.mv (.t 0),some (17,false)⟩,⟨some 19,.idxS (.t 18) (.v (.int .i64 0)),some (17,false)⟩,⟨some 20,.bin .eql (.t 19) (.v (.int .u8 48)),some (17,false)⟩,⟨some 21,.pick (.t 17) (.v (.bool true)) (.t 20),none⟩]
def r6 : List AO := [⟨some 2,.asg (.v (.bool false)),none⟩]
def r7 : List AO := [⟨some 22,.mv (.t 0),none⟩,⟨some 23,.len true (.t 22),none⟩,⟨some 24,.mv (.v (.int .i64 0)),none⟩]
def r8 : List AO := [⟨some 25,.bin .lss (.t 24) (.t 23),none⟩]
def r9 : List AO := [⟨some 26,.mv (.t 24),none⟩,⟨some 3,.asg (.t 26),none⟩]
def r10 : List AO := [⟨some 27,.mv (.t 0),none⟩,⟨some 28,.mv (.t 3),none⟩,⟨some 29,.idxS (.t 27) (.t 28),none⟩,⟨some 30,.bin .lss (.t 29) (.v (.int .u8 48)),none⟩,⟨some 31,.mv (.t 30),none⟩,⟨some 32,.mv (.t 0),some (31,false)⟩,⟨some 33,.mv (.t 3),some (31,false)⟩,⟨some 34,.idxS (.t 32) (.t 33),some (31,false)⟩,⟨some 35,.bin .gtr (.t 34) (.v (.int .u8 57)),some (31,false)⟩,⟨some 36,.pick (.t 31) (.v (.bool true)) (.t 35),none⟩]
def r11 : List AO := [⟨some 2,.asg (.v (.bool false)),none⟩]
def r12 : List AO := [⟨some 37,.bin .add (.t 24) (.v (.int .i64 1)),none⟩,⟨some 24,.mv (.t 37),none⟩]
def l1 : AC := .seq (.reg r8 [0,23,24,25]) (.seq (.cond (.t 25) (.skip) (.exit 0)) (.seq (.block 1 (.seq (.reg r9 [0,3,23,24]) (.seq (.reg r10 [0,23,24,36]) (.cond (.t 36) (.seq (.reg r11 [2]) (.ret)) (.skip))))) (.reg r12 [0,23,24])))
def r13 : List AO := [⟨some 2,.asg (.v (.bool true)),none⟩]
def body : AC := .seq (.reg r0 [0]) (.seq (.seq (.reg r1 [0,5]) (.cond (.t 5) (.seq (.reg r2 [2]) (.ret)) (.skip))) (.seq (.seq (.reg r3 [0,12]) (.cond (.t 12) (.reg r4 [0]) (.skip))) (.seq (.seq (.reg r5 [0,21]) (.cond (.t 21) (.seq (.reg r6 [2]) (.ret)) (.skip))) (.seq (.seq (.reg r7 [0,23,24]) (.block 0 (.loop [0,23,24] l1))) (.seq (.reg r13 [2]) (.ret))))))
def fn : AFun := ⟨[.val],38,[.tmp 2],[],body⟩
end tens_Formed
namespace tens_split
def r0 : List AO := [⟨some 2,.asg (.v (.bool false)),none⟩,⟨some 3,.asg (.v (.str [])),none⟩]
def r1 : List AO := [⟨some 4,.mv (.t 0),none⟩,⟨some 5,.idxS (.t 4) (.v (.int .i64 0)),none⟩,⟨some 6,.bin .eql (.t 5) (.v (.int .u8 45)),none⟩]
def r2 : List Ph := [.bag false [] [0] [(0,⟨some 7,.mv (.t 0),none⟩),(1,⟨some 8,.slc true 1 (.t 7) (some (.v (.int .i64 1))) none,none⟩),(2,⟨some 2,.asg (.v (.bool true)),none⟩),(3,⟨some 3,.asg (.t 8),none⟩)]]
def r3 : List AO := [⟨some 9,.mv (.t 0),none⟩,⟨some 2,.asg (.v (.bool false)),none⟩,⟨some 3,.asg (.t 9),none⟩]
def body : AC := .seq (.reg r0 [0]) (.seq (.seq (.reg r1 [0,6]) (.cond (.t 6) (.seq (.dreg r2 [2,3]) (.ret)) (.skip))) (.seq (.reg r3 [2,3]) (.ret)))
def fn : AFun := ⟨[.val],10,[.tmp 2,.tmp 3],[],body⟩
end tens_split
namespace tens_size
def r0 : List AO := [⟨some 4,.asg (.v (.int .i64 0)),none⟩]
def r1 : List AO := [⟨some 6,.mv (.t 0),none⟩,⟨some 7,.len true (.t 6),none⟩,⟨some 8,.mv (.t 1),none⟩,⟨some 9,.len true (.t 8),none⟩,⟨some 10,.bin .neq (.t 7) (.t 9),none⟩,⟨some 5,.asg (.t 10),none⟩]
def r2 : List AO := [⟨some 11,.mv (.t 0),none⟩,⟨some 12,.len true (.t 11),none⟩,⟨some 13,.mv (.t 1),none⟩,⟨some 14,.len true (.t 13),none⟩,⟨some 15,.bin .sub (.t 12) (.t 14),none⟩,⟨some 16,.mm true [.t 15,.v (.int .i64 (-1))],none⟩,⟨some 17,.mm false [.t 16,.v (.int .i64 1)],none⟩,⟨some 4,.asg (.t 17),none⟩]
def r3 : List AO := [⟨some 19,.mv (.t 0),none⟩,⟨some 20,.mv (.t 1),none⟩,⟨some 21,.bin .lss (.t 19) (.t 20),none⟩,⟨some 18,.asg (.t 21),none⟩]
def r4 : List AO := [⟨some 4,.asg (.v (.int .i64 (-1))),none⟩]
def r5 : List AO := [⟨some 23,.mv (.t 0),none⟩,⟨some 24,.mv (.t 1),none⟩,⟨some 25,.bin .gtr (.t 23) (.t 24),none⟩,⟨some 22,.asg (.t 25),none⟩]
def r6 : List AO := [⟨some 4,.asg (.v (.int .i64 1)),none⟩]
def r7 : List AO := [⟨some 4,.asg (.v (.int .i64 0)),none⟩]
def body : AC := .seq (.reg r0 [0,1]) (.seq (.block 0 (.seq (.reg r1 [0,1,5]) (.cond (.t 5) (.seq (.reg r2 [4]) (.ret)) (.seq (.reg r3 [0,1,18]) (.cond (.t 18) (.seq (.reg r4 [4]) (.ret)) (.seq (.reg r5 [22]) (.cond (.t 22) (.seq (.reg r6 [4]) (.ret)) (.skip)))))))) (.seq (.reg r7 [4]) (.ret)))
def fn : AFun := ⟨[.val,.val],26,[.tmp 4],[],body⟩
end tens_size
namespace cmp_isNaN_string
def r0 : List AO := [⟨some 2,.asg (.v (.bool false)),none⟩]
def r1 : List AO := [⟨some 3,.mv (.t 0),none⟩,⟨some 4,.mv (.t 0),none⟩,⟨some 5,.bin .neq (.t 3) (.t 4),none⟩,⟨some 2,.asg (.t 5),none⟩]
def body : AC := .seq (.reg r0 [0]) (.seq (.reg r1 [2]) (.ret))
def fn : AFun := ⟨[.val],6,[.tmp 2],[],body⟩
end cmp_isNaN_string
namespace value_Formed
def r0 : List AO := [⟨some 1,.box (.t 0),none⟩,⟨some 2,.asg (.v (.bool false)),none⟩]
def r1 : List AO := [⟨some 3,.fadr 0 (.t 1),none⟩,⟨some 4,.load 1 false (.t 3),none⟩]
def r2 : List AO := [⟨some 6,.bin .eql (.t 4) (.v (.int .i64 0)),none⟩,⟨some 5,.asg (.t 6),none⟩]
def r3 : List AO := [⟨some 7,.bin .eql (.t 4) (.v (.int .i64 1)),none⟩,⟨some 5,.asg (.t 7),none⟩]
def r4 : List AO := [⟨some 8,.bin .eql (.t 4) (.v (.int .i64 2)),none⟩,⟨some 5,.asg (.t 8),none⟩]
def r5 : List AO := [⟨some 9,.take 5 true (.t 1),none⟩,⟨some 10,.call .deep (.v (.clo F.value_empty [] [])) [.t 9,.v (.bool false),.v (.bool false),.v (.bool false),.v (.bool false)],none⟩,⟨some 2,.asg (.t 10),none⟩]
def r6 : List AO := [⟨some 12,.bin .eql (.t 4) (.v (.int .i64 3)),none⟩,⟨some 11,.asg (.t 12),none⟩]
def r7 : List AO := [⟨some 13,.load 5 true (.t 1),none⟩,⟨some 14,.call .deep (.v (.clo F.value_empty [] [])) [.t 13,.v (.bool true),.v (.bool false),.v (.bool false),.v (.bool false)],none⟩,⟨some 15,.mv (.t 14),none⟩,⟨some 16,.fadr 1 (.t 1),some (15,true)⟩,⟨some 17,.load 1 false (.t 16),some (15,true)⟩,⟨some 18,.call .deep (.v (.clo F.tens_Formed [] [])) [.t 17],some (15,true)⟩,⟨some 19,.pick (.t 15) (.t 18) (.v (.bool false)),none⟩,⟨some 2,.asg (.t 19),none⟩]
def r8 : List AO := [⟨some 21,.bin .eql (.t 4) (.v (.int .i64 4)),none⟩,⟨some 20,.asg (.t 21),none⟩]
def r9 : List AO := [⟨some 22,.load 5 true (.t 1),none⟩,⟨some 23,.call .deep (.v (.clo F.value_empty [] [])) [.t 22,.v (.bool false),.v (.bool true),.v (.bool false),.v (.bool false)],none⟩,⟨some 24,.mv (.t 23),none⟩,⟨some 25,.fadr 2 (.t 1),some (24,true)⟩,⟨some 26,.load 1 false (.t 25),some (24,true)⟩,⟨some 27,.call .deep (.v (.clo F.utf_Valid [] [])) [.t 26],some (24,true)⟩,⟨some 28,.pick (.t 24) (.t 27) (.v (.bool false)),none⟩,⟨some 2,.asg (.t 28),none⟩]
def r10 : List AO := [⟨some 30,.bin .eql (.t 4) (.v (.int .i64 5)),none⟩,⟨some 29,.asg (.t 30),none⟩]
def r11 : List AO := [⟨some 31,.load 5 true (.t 1),none⟩,⟨some 32,.call .deep (.v (.clo F.value_empty [] [])) [.t 31,.v (.bool false),.v (.bool false),.v (.bool true),.v (.bool false)],none⟩,⟨some 33,.mv (.t 32),none⟩,⟨some 34,.fadr 3 (.t 1),some (33,true)⟩,⟨some 35,.take 1 false (.t 34),some (33,true)⟩,⟨some 36,.call .deep (.v (.clo F.value_allFormed [] [])) [.t 35],some (33,true)⟩,⟨some 37,.pick (.t 33) (.t 36) (.v (.bool false)),none⟩,⟨some 2,.asg (.t 37),none⟩]
def r12 : List AO := [⟨some 39,.bin .eql (.t 4) (.v (.int .i64 6)),none⟩,⟨some 38,.asg (.t 39),none⟩]
def r13 : List AO := [⟨some 40,.load 5 true (.t 1),none⟩,⟨some 41,.call .deep (.v (.clo F.value_empty [] [])) [.t 40,.v (.bool false),.v (.bool false),.v (.bool true),.v (.bool true)],none⟩,⟨some 42,.mv (.t 41),none⟩,⟨some 43,.fadr 3 (.t 1),some (42,true)⟩,⟨some 44,.load 1 false (.t 43),some (42,true)⟩,⟨some 45,.len false (.t 44),some (42,true)⟩,⟨some 46,.fadr 4 (.t 1),some (42,true)⟩,⟨some 47,.load 1 false (.t 46),some (42,true)⟩,⟨some 48,.len false (.t 47),some (42,true)⟩,⟨some 49,.bin .eql (.t 45) (.t 48),some (42,true)⟩,⟨some 50,.pick (.t 42) (.t 49) (.v (.bool false)),none⟩,⟨some 51,.mv (.t 50),none⟩,⟨some 52,.fadr 4 (.t 1),some (51,true)⟩,⟨some 53,.load 1 false (.t 52),some (51,true)⟩,⟨some 54,.call .deep (.v (.clo F.value_rise [] [])) [.t 53],some (51,true)⟩,⟨some 55,.pick (.t 51) (.t 54) (.v (.bool false)),none⟩,⟨some 56,.mv (.t 55),none⟩,⟨some 57,.fadr 3 (.t 1),some (56,true)⟩,⟨some 58,.take 1 false (.t 57),some (56,true)⟩,⟨some 59,.call .deep (.v (.clo F.value_allFormed [] [])) [.t 58],some (56,true)⟩,⟨some 60,.pick (.t 56) (.t 59) (.v (.bool false)),none⟩,⟨some 2,.asg (.t 60),none⟩]
def r14 : List AO := [⟨some 2,.asg (.v (.bool false)),none⟩]
def body : AC := .seq (.reg r0 [1]) (.seq (.seq (.reg r1 [1,4]) (.block 0 (.seq (.seq (.reg r2 [1,4,5]) (.cond (.t 5) (.skip) (.seq (.reg r3 [1,4,5]) (.cond (.t 5) (.skip) (.reg r4 [1,4,5]))))) (.cond (.t 5) (.seq (.reg r5 [2]) (.ret)) (.seq (.reg r6 [1,4,11]) (.cond (.t 11) (.seq (.reg r7 [2]) (.ret)) (.seq (.reg r8 [1,4,20]) (.cond (.t 20) (.seq (.reg r9 [2]) (.ret)) (.seq (.reg r10 [1,4,29]) (.cond (.t 29) (.seq (.reg r11 [2]) (.ret)) (.seq (.reg r12 [1,38]) (.cond (.t 38) (.seq (.reg r13 [2]) (.ret)) (.skip))))))))))))) (.seq (.reg r14 [2]) (.ret)))
def fn : AFun := ⟨[.val],61,[.tmp 2],[],body⟩
end value_Formed
namespace value_Get
def r0 : List AO := [⟨some 2,.box (.t 0),none⟩,⟨some 4,.alloc [.av (.int .i64 0),.av (.str []),.av (.str []),.own 5 [],.own 1 []],none⟩,⟨some 5,.asg (.v (.bool false)),none⟩]
def r1 : List AO := [⟨some 7,.fadr 4 (.t 2),none⟩,⟨some 8,.load 1 false (.t 7),none⟩,⟨some 9,.mv (.t 1),none⟩,⟨some 10,.call .deep (.v (.clo F.slices_Index_Ls [] [])) [.t 8,.t 9],none⟩,⟨some 6,.asg (.t 10),none⟩]
def r2 : List AO := [⟨some 11,.fadr 0 (.t 2),none⟩,⟨some 12,.load 1 false (.t 11),none⟩,⟨some 13,.bin .neq (.t 12) (.v (.int .i64 6)),none⟩,⟨some 14,.mv (.t 13),none⟩,⟨some 15,.mv (.t 6),some (14,false)⟩,⟨some 16,.bin .lss (.t 15) (.v (.int .i64 0)),some (14,false)⟩,⟨some 17,.pick (.t 14) (.v (.bool true)) (.t 16),none⟩,⟨some 18,.mv (.t 17),none⟩,⟨some 19,.mv (.t 6),some (18,false)⟩,⟨some 20,.fadr 3 (.t 2),some (18,false)⟩,⟨some 21,.load 1 false (.t 20),some (18,false)⟩,⟨some 22,.len false (.t 21),some (18,false)⟩,⟨some 23,.bin .geq (.t 19) (.t 22),some (18,false)⟩,⟨some 24,.pick (.t 18) (.v (.bool true)) (.t 23),none⟩]
def r3 : List AO := [⟨some 25,.build [.av (.int .i64 0),.av (.str []),.av (.str []),.own 5 [],.own 1 []] [],none⟩,⟨none,.store 5 (.t 4) (.t 25),none⟩,⟨some 5,.asg (.v (.bool false)),none⟩]
def r4 : List AO := [⟨some 26,.fadr 3 (.t 2),none⟩,⟨some 27,.take 1 false (.t 26),none⟩,⟨some 28,.mv (.t 6),none⟩,⟨some 29,.iadr 5 (.t 27) (.t 28),none⟩,⟨some 30,.load 5 true (.t 29),none⟩,⟨some 31,.call .deep (.v (.clo F.value_Twin [] [])) [.t 30],none⟩,⟨none,.store 5 (.t 4) (.t 31),none⟩,⟨some 5,.asg (.v (.bool true)),none⟩]
def body : AC := .seq (.reg r0 [1,2,4]) (.seq (.reg r1 [2,4,6]) (.seq (.seq (.reg r2 [2,4,6,24]) (.cond (.t 24) (.seq (.reg r3 [4,5]) (.ret)) (.skip))) (.seq (.reg r4 [4,5]) (.ret))))
def fn : AFun := ⟨[.val,.val],32,[.cell 4 5 true,.tmp 5],[],body⟩
end value_Get
namespace value_empty
def r0 : List AO := [⟨some 5,.box (.t 0),none⟩,⟨some 10,.asg (.v (.bool false)),none⟩]
def r1 : List AO := [⟨some 11,.mv (.t 1),none⟩,⟨some 12,.mv (.t 11),none⟩,⟨some 13,.fadr 1 (.t 5),some (12,false)⟩,⟨some 14,.load 1 false (.t 13),some (12,false)⟩,⟨some 15,.bin .eql (.t 14) (.v (.str [])),some (12,false)⟩,⟨some 16,.pick (.t 12) (.v (.bool true)) (.t 15),none⟩,⟨some 17,.mv (.t 16),none⟩,⟨some 18,.mv (.t 2),some (17,true)⟩,⟨some 19,.mv (.t 18),some (17,true)⟩,⟨some 20,.fadr 2 (.t 5),some (19,false)⟩,⟨some 21,.load 1 false (.t 20),some (19,false)⟩,⟨some 22,.bin .eql (.t 21) (.v (.str [])),some (19,false)⟩,⟨some 23,.pick (.t 19) (.v (.bool true)) (.t 22),some (17,true)⟩,⟨some 24,.pick (.t 17) (.t 23) (.v (.bool false)),none⟩,⟨some 25,.mv (.t 24),none⟩,⟨some 26,.mv (.t 3),some (25,true)⟩,⟨some 27,.mv (.t 26),some (25,true)⟩,⟨some 28,.fadr 3 (.t 5),some (27,false)⟩,⟨some 29,.load 1 false (.t 28),some (27,false)⟩,⟨some 30,.len false (.t 29),some (27,false)⟩,⟨some 31,.bin .eql (.t 30) (.v (.int .i64 0)),some (27,false)⟩,⟨some 32,.pick (.t 27) (.v (.bool true)) (.t 31),some (25,true)⟩,⟨some 33,.pick (.t 25) (.t 32) (.v (.bool false)),none⟩,⟨some 34,.mv (.t 33),none⟩,⟨some 35,.mv (.t 4),some (34,true)⟩,⟨some 36,.mv (.t 35),some (34,true)⟩,⟨some 37,.fadr 4 (.t 5),some (36,false)⟩,⟨some 38,.take 1 false (.t 37),some (36,false)⟩,⟨some 39,.len false (.t 38),some (36,false)⟩,⟨some 40,.bin .eql (.t 39) (.v (.int .i64 0)),some (36,false)⟩,⟨some 41,.pick (.t 36) (.v (.bool true)) (.t 40),some (34,true)⟩,⟨some 42,.pick (.t 34) (.t 41) (.v (.bool false)),none⟩,⟨some 10,.asg (.t 42),none⟩]
def body : AC := .seq (.reg r0 [1,2,3,4,5]) (.seq (.reg r1 [10]) (.ret))
def fn : AFun := ⟨[.val,.val,.val,.val,.val],43,[.tmp 10],[],body⟩
end value_empty
namespace utf_Valid
def r0 : List AO := [⟨some 2,.asg (.v (.bool false)),none⟩]
def r1 : List AO := [⟨some 3,.mv (.t 0),none⟩,⟨some 4,.call .deep (.v (.clo F.unicode_utf8_ValidString [] [])) [.t 3],none⟩,⟨some 2,.asg (.t 4),none⟩]
def body : AC := .seq (.reg r0 [0]) (.seq (.reg r1 [2]) (.ret))
def fn : AFun := ⟨[.val],5,[.tmp 2],[],body⟩
end utf_Valid
namespace value_allFormed
def r0 : List AO := [⟨some 2,.asg (.v (.bool false)),none⟩]
def r1 : List AO := [⟨some 3,.mv (.t 0),none⟩,⟨some 4,.call .deep (.v (.clo F.slices_ContainsFunc_LV [] [])) [.t 3,.v (.clo F.value_allFormed_S1 [] [])],none⟩,⟨some 5,.un .not (.t 4),none⟩,⟨some 2,.asg (.t 5),none⟩]
def body : AC := .seq (.reg r0 [0]) (.seq (.reg r1 [2]) (.ret))
def fn : AFun := ⟨[.val],6,[.tmp 2],[],body⟩
end value_allFormed
namespace value_rise
def r0 : List AO := [⟨some 2,.asg (.v (.bool false)),none⟩]
def r1 : List AO := [⟨some 5,.mv (.t 0),none⟩,⟨some 6,.len false (.t 5),none⟩,⟨some 7,.mv (.v (.int .i64 0)),none⟩]
def r2 : List AO := [⟨some 8,.bin .lss (.t 7) (.t 6),none⟩]
def r3 : List AO := [⟨some 9,.mv (.t 7),none⟩,⟨some 10,.iadr 1 (.t 5) (.t 7),none⟩,⟨some 11,.load 1 false (.t 10),none⟩,⟨some 3,.asg (.t 9),none⟩,⟨some 4,.asg (.t 11),none⟩]
def r4 : List AO := [⟨some 12,.mv (.t 4),none⟩,⟨some 13,.call .deep (.v (.clo F.utf_Valid [] [])) [.t 12],none⟩,⟨some 14,.un .not (.t 13),none⟩,⟨some 15,.mv (.t 14),none⟩,⟨some 16,.mv (.t 3),some (15,false)⟩,⟨some 17,.bin .gtr (.t 16) (.v (.int .i64 0)),some (15,false)⟩,⟨some 18,.mv (.t 17),some (15,false)⟩,⟨some 19,.mv (.t 0),some (18,true)⟩,⟨some 20,.mv (.t 3),some (18,true)⟩,⟨some 21,.bin .sub (.t 20) (.v (.int .i64 1)),some (18,true)⟩,⟨some 22,.iadr 1 (.t 19) (.t 21),some (18,true)⟩,⟨some 23,.load 1 false (.t 22),some (18,true)⟩,⟨some 24,.mv (.t 4),some (18,true)⟩,⟨some 25,.bin .geq (.t 23) (.t 24),some (18,true)⟩,⟨some 26,.pick (.t 18) (.t 25) (.v (.bool false)),some (15,false)⟩,⟨some 27,.pick (.t 15) (.v (.bool true)) (.t 26),none⟩]
def r5 : List AO := [⟨some 2,.asg (.v (.bool false)),none⟩]
def r6 : List AO := [⟨some 28,.bin .add (.t 7) (.v (.int .i64 1)),none⟩,⟨some 7,.mv (.t 28),none⟩]
def l1 : AC := .seq (.reg r2 [0,5,6,7,8]) (.seq (.cond (.t 8) (.skip) (.exit 0)) (.seq (.block 1 (.seq (.reg r3 [0,3,4,5,6,7]) (.seq (.reg r4 [0,5,6,7,27]) (.cond (.t 27) (.seq (.reg r5 [2]) (.ret)) (.skip))))) (.reg r6 [0,5,6,7])))
def r7 : List AO := [⟨some 2,.asg (.v (.bool true)),none⟩]
def body : AC := .seq (.reg r0 [0]) (.seq (.seq (.reg r1 [0,5,6,7]) (.block 0 (.loop [0,5,6,7] l1))) (.seq (.reg r7 [2]) (.ret)))
def fn : AFun := ⟨[.val],29,[.tmp 2],[],body⟩
end value_rise
namespace slices_Index_Ls
def r0 : List AO := [⟨some 4,.asg (.v (.int .i64 0)),none⟩]
def r1 : List AO := [⟨some 6,.mv (.t 0),none⟩,⟨some 7,.len false (.t 6),none⟩,⟨some 8,.mv (.v (.int .i64 0)),none⟩]
def r2 : List AO := [⟨some 9,.bin .lss (.t 8) (.t 7),none⟩]
def r3 : List AO := [⟨some 10,.mv (.t 8),none⟩,⟨some 5,.asg (.t 10),none⟩]
def r4 : List AO := [⟨some 11,.mv (.t 1),none⟩,⟨some 12,.mv (.t 0),none⟩,⟨some 13,.mv (.t 5),none⟩,⟨some 14,.iadr 1 (.t 12) (.t 13),none⟩,⟨some 15,.load 1 false (.t 14),none⟩,⟨some 16,.bin .eql (.t 11) (.t 15),none⟩]
def r5 : List AO := [⟨some 17,.mv (.t 5),none⟩,⟨some 4,.asg (.t 17),none⟩]
def r6 : List AO := [⟨some 18,.bin .add (.t 8) (.v (.int .i64 1)),none⟩,⟨some 8,.mv (.t 18),none⟩]
def l1 : AC := .seq (.reg r2 [0,1,7,8,9]) (.seq (.cond (.t 9) (.skip) (.exit 0)) (.seq (.block 1 (.seq (.reg r3 [0,1,5,7,8]) (.seq (.reg r4 [0,1,5,7,8,16]) (.cond (.t 16) (.seq (.reg r5 [4]) (.ret)) (.skip))))) (.reg r6 [0,1,7,8])))
def r7 : List AO := [⟨some 4,.asg (.v (.int .i64 (-1))),none⟩]
def body : AC := .seq (.reg r0 [0,1]) (.seq (.seq (.reg r1 [0,1,7,8]) (.block 0 (.loop [0,1,7,8] l1))) (.seq (.reg r7 [4]) (.ret)))
def fn : AFun := ⟨[.val,.val],19,[.tmp 4],[],body⟩
end slices_Index_Ls
namespace slices_BinarySearch_Ls
def r0 : List AO := [⟨some 4,.asg (.v (.int .i64 0)),none⟩,⟨some 5,.asg (.v (.bool false)),none⟩]
def r1 : List AO := [⟨some 10,.mv (.t 0),none⟩,⟨some 11,.len false (.t 10),none⟩,⟨some 6,.asg (.t 11),none⟩]
def r2 : List AO := [⟨some 12,.mv (.t 6),none⟩,⟨some 7,.asg (.v (.int .i64 0)),none⟩,⟨some 8,.asg (.t 12),none⟩]
def r3 : List AO := [⟨some 13,.mv (.t 7),none⟩,⟨some 14,.mv (.t 8),none⟩,⟨some 15,.bin .lss (.t 13) (.t 14),none⟩]
def r4 : List AO := [⟨some 16,.mv (.t 7),none⟩,⟨some 17,.mv (.t 8),none⟩,⟨some 18,.bin .add (.t 16) (.t 17),none⟩,⟨some 19,.conv (.int .u64) (.t 18),none⟩,⟨some 20,.bin .shr (.t 19) (.v (.int .u64 1)),none⟩,⟨some 21,.conv (.int .i64) (.t 20),none⟩,⟨some 9,.asg (.t 21),none⟩]
def r5 : List AO := [⟨some 22,.mv (.t 0),none⟩,⟨some 23,.mv (.t 9),none⟩,⟨some 24,.iadr 1 (.t 22) (.t 23),none⟩,⟨some 25,.load 1 false (.t 24),none⟩,⟨some 26,.mv (.t 1),none⟩,⟨some 27,.call .deep (.v (.clo F.cmp_Less_string [] [])) [.t 25,.t 26],none⟩]
def r6 : List AO := [⟨some 28,.mv (.t 9),none⟩,⟨some 29,.bin .add (.t 28) (.v (.int .i64 1)),none⟩,⟨some 7,.asg (.t 29),none⟩]
def r7 : List AO := [⟨some 30,.mv (.t 9),none⟩,⟨some 8,.asg (.t 30),none⟩]
def l1 : AC := .seq (.seq (.reg r3 [0,1,6,7,8,15]) (.cond (.t 15) (.skip) (.exit 0))) (.block 1 (.seq (.reg r4 [0,1,6,7,8,9]) (.seq (.reg r5 [0,1,6,7,8,9,27]) (.cond (.t 27) (.reg r6 [0,1,6,7,8]) (.reg r7 [0,1,6,7,8])))))
def r8 : List AO := [⟨some 31,.mv (.t 7),none⟩,⟨some 32,.mv (.t 7),none⟩,⟨some 33,.mv (.t 6),none⟩,⟨some 34,.bin .lss (.t 32) (.t 33),none⟩,⟨some 35,.mv (.t 34),none⟩,⟨some 36,.mv (.t 0),some (35,true)⟩,⟨some 37,.mv (.t 7),some (35,true)⟩,⟨some 38,.iadr 1 (.t 36) (.t 37),some (35,true)⟩,⟨some 39,.load 1 false (.t 38),some (35,true)⟩,⟨some 40,.mv (.t 1),some (35,true)⟩,⟨some 41,.bin .eql (.t 39) (.t 40),some (35,true)⟩,⟨some 42,.mv (.t 41),some (35,true)⟩,⟨some 43,.mv (.t 0),some (42,false)⟩,⟨some 44,.mv (.t 7),some (42,false)⟩,⟨some 45,.iadr 1 (.t 43) (.t 44),some (42,false)⟩,⟨some 46,.load 1 false (.t 45),some (42,false)⟩,⟨some 47,.call .deep (.v (.clo F.slices_isNaN_string [] [])) [.t 46],some (42,false)⟩,⟨some 48,.mv (.t 47),some (42,false)⟩,⟨some 49,.mv (.t 1),some (48,true)⟩,⟨some 50,.call .deep (.v (.clo F.slices_isNaN_string [] [])) [.t 49],some (48,true)⟩,⟨some 51,.pick (.t 48) (.t 50) (.v (.bool false)),some (42,false)⟩,⟨some 52,.pick (.t 42) (.v (.bool true)) (.t 51),some (35,true)⟩,⟨some 53,.pick (.t 35) (.t 52) (.v (.bool false)),none⟩,⟨some 4,.asg (.t 31),none⟩,⟨some 5,.asg (.t 53),none⟩]
def body : AC := .seq (.reg r0 [0,1]) (.seq (.reg r1 [0,1,6]) (.seq (.reg r2 [0,1,6,7,8]) (.seq (.block 0 (.loop [0,1,6,7,8] l1)) (.seq (.reg r8 [4,5]) (.ret)))))
def fn : AFun := ⟨[.val,.val],54,[.tmp 4,.tmp 5],[],body⟩
end slices_BinarySearch_Ls
namespace h03_Numbers
def r0 : List AO := [⟨some 4,.asg (.v (.int .i64 0)),none⟩]
def r1 : List AO := [⟨some 7,.mv (.t 0),none⟩,⟨some 8,.idxS (.t 7) (.v (.int .i64 0)),none⟩,⟨some 9,.bin .eql (.t 8) (.v (.int .u8 45)),none⟩,⟨some 5,.asg (.t 9),none⟩]
def r2 : List AO := [⟨some 10,.mv (.t 1),none⟩,⟨some 11,.idxS (.t 10) (.v (.int .i64 0)),none⟩,⟨some 12,.bin .eql (.t 11) (.v (.int .u8 45)),none⟩,⟨some 6,.asg (.t 12),none⟩]
def r3 : List AO := [⟨some 13,.mv (.t 5),none⟩,⟨some 14,.mv (.t 13),none⟩,⟨some 15,.mv (.t 6),some (14,true)⟩,⟨some 16,.un .not (.t 15),some (14,true)⟩,⟨some 17,.pick (.t 14) (.t 16) (.v (.bool false)),none⟩]
def r4 : List AO := [⟨some 4,.asg (.v (.int .i64 (-1))),none⟩]
def r5 : List AO := [⟨some 18,.mv (.t 6),none⟩,⟨some 19,.mv (.t 18),none⟩,⟨some 20,.mv (.t 5),some (19,true)⟩,⟨some 21,.un .not (.t 20),some (19,true)⟩,⟨some 22,.pick (.t 19) (.t 21) (.v (.bool false)),none⟩]
def r6 : List AO := [⟨some 4,.asg (.v (.int .i64 1)),none⟩]
def r7 : List AO := [⟨some 23,.mv (.t 5),none⟩]
def r8 : List Ph := [.bag false [] [0,1] [(0,⟨some 24,.mv (.t 1),none⟩),(1,⟨some 25,.slc true 1 (.t 24) (some (.v (.int .i64 1))) none,none⟩),(2,⟨some 26,.mv (.t 0),none⟩),(3,⟨some 27,.slc true 1 (.t 26) (some (.v (.int .i64 1))) none,none⟩),(4,⟨some 28,.call .deep (.v (.clo F.h03_Numbers [] [])) [.t 25,.t 27],none⟩),(5,⟨some 4,.asg (.t 28),none⟩)]]
def r9 : List AO := [⟨some 29,.mv (.t 0),none⟩,⟨some 30,.len true (.t 29),none⟩,⟨some 31,.mv (.t 1),none⟩,⟨some 32,.len true (.t 31),none⟩,⟨some 33,.bin .neq (.t 30) (.t 32),none⟩]
def r10 : List AO := [⟨some 34,.mv (.t 0),none⟩,⟨some 35,.len true (.t 34),none⟩,⟨some 36,.mv (.t 1),none⟩,⟨some 37,.len true (.t 36),none⟩,⟨some 38,.bin .lss (.t 35) (.t 37),none⟩]
def r11 : List AO := [⟨some 4,.asg (.v (.int .i64 (-1))),none⟩]
def r12 : List AO := [⟨some 4,.asg (.v (.int .i64 1)),none⟩]
def r13 : List AO := [⟨some 39,.mv (.t 0),none⟩,⟨some 40,.mv (.t 1),none⟩,⟨some 41,.call .deep (.v (.clo F.h03_Texts [] [])) [.t 39,.t 40],none⟩,⟨some 4,.asg (.t 41),none⟩]
def body : AC := .seq (.reg r0 [0,1]) (.seq (.reg r1 [0,1,5]) (.seq (.reg r2 [0,1,5,6]) (.seq (.seq (.reg r3 [0,1,5,6,17]) (.cond (.t 17) (.seq (.reg r4 [4]) (.ret)) (.skip))) (.seq (.seq (.reg r5 [0,1,5,22]) (.cond (.t 22) (.seq (.reg r6 [4]) (.ret)) (.skip))) (.seq (.seq (.reg r7 [0,1,23]) (.cond (.t 23) (.seq (.dreg r8 [4]) (.ret)) (.skip))) (.seq (.seq (.reg r9 [0,1,33]) (.cond (.t 33) (.seq (.seq (.reg r10 [38]) (.cond (.t 38) (.seq (.reg r11 [4]) (.ret)) (.skip))) (.seq (.reg r12 [4]) (.ret))) (.skip))) (.seq (.reg r13 [4]) (.ret))))))))
def fn : AFun := ⟨[.val,.val],42,[.tmp 4],[],body⟩
end h03_Numbers
namespace h03_Texts
def r0 : List AO := [⟨some 4,.asg (.v (.int .i64 0)),none⟩]
def r1 : List AO := [⟨some 5,.mv (.t 0),none⟩,⟨some 6,.mv (.t 1),none⟩,⟨some 7,.bin .lss (.t 5) (.t 6),none⟩]
def r2 : List AO := [⟨some 4,.asg (.v (.int .i64 (-1))),none⟩]
def r3 : List AO := [⟨some 8,.mv (.t 0),none⟩,⟨some 9,.mv (.t 1),none⟩,⟨some 10,.bin .gtr (.t 8) (.t 9),none⟩]
def r4 : List AO := [⟨some 4,.asg (.v (.int .i64 1)),none⟩]
def r5 : List AO := [⟨some 4,.asg (.v (.int .i64 0)),none⟩]
def body : AC := .seq (.reg r0 [0,1]) (.seq (.seq (.reg r1 [0,1,7]) (.cond (.t 7) (.seq (.reg r2 [4]) (.ret)) (.skip))) (.seq (.seq (.reg r3 [10]) (.cond (.t 10) (.seq (.reg r4 [4]) (.ret)) (.skip))) (.seq (.reg r5 [4]) (.ret))))
def fn : AFun := ⟨[.val,.val],11,[.tmp 4],[],body⟩
end h03_Texts
namespace unicode_utf8_ValidString
def r0 : List AO := [⟨some 2,.asg (.v (.bool false)),none⟩]
def r1 : List AO := [⟨some 7,.mv (.t 0),none⟩,⟨some 8,.len true (.t 7),none⟩,⟨some 9,.bin .gtr (.t 8) (.v (.int .i64 0)),none⟩]
def r2 : List AO := [⟨some 10,.mv (.t 0),none⟩,⟨some 11,.idxS (.t 10) (.v (.int .i64 0)),none⟩,⟨some 3,.asg (.t 11),none⟩]
def r3 : List AO := [⟨some 12,.mv (.t 3),none⟩,⟨some 13,.bin .lss (.t 12) (.v (.int .u8 128)),none⟩]
def r4 : List AO := [⟨some 14,.mv (.t 0),none⟩,⟨some 15,.slc true 1 (.t 14) (some (.v (.int .i64 1))) none,none⟩,⟨some 0,.asg (.t 15),none⟩]
def r5 : List AO := [⟨some 16,.mv (.t 0),none⟩,⟨some 17,.len true (.t 16),none⟩,⟨some 18,.bin .gtr (.t 17) (.v (.int .i64 8)),none⟩,⟨some 19,.mv (.t 18),none⟩,⟨some 20,.mv (.t 0),some (19,true)⟩,⟨some 21,.call .deep (.v (.clo F.unicode_utf8_word_string [] [])) [.t 20],some (19,true)⟩,⟨some 22,.bin .and (.t 21) (.v (.int .u64 9259542123273814144)),some (19,true)⟩,⟨some 23,.bin .eql (.t 22) (.v (.int .u64 0)),some (19,true)⟩,⟨some 24,.pick (.t 19) (.t 23) (.v (.bool false)),none⟩]
def r6 : List AO := [⟨some 25,.mv (.t 0),none⟩,⟨some 26,.slc true 1 (.t 25) (some (.v (.int .i64 8))) none,none⟩,⟨some 0,.asg (.t 26),none⟩]
def r7 : List Ph := [.bag false [] [] [(0,⟨some 27,.mv (.t 0),none⟩),(1,⟨some 28,.len true (.t 27),none⟩),(2,⟨some 29,.bin .gtr (.t 28) (.v (.int .i64 16)),none⟩),(3,⟨some 30,.mv (.t 29),none⟩),(4,⟨some 31,.mv (.t 0),some (30,true)⟩),(5,⟨some 32,.call .deep (.v (.clo F.unicode_utf8_word_string [] [])) [.t 31],some (30,true)⟩),(6,⟨some 33,.mv (.t 0),some (30,true)⟩),(7,⟨some 34,.slc true 1 (.t 33) (some (.v (.int .i64 8))) none,some (30,true)⟩),(8,⟨some 35,.call .deep (.v (.clo F.unicode_utf8_word_string [] [])) [.t 34],some (30,true)⟩),(9,⟨some 36,.bin .or (.t 32) (.t 35),some (30,true)⟩),(10,⟨some 37,.bin .and (.t 36) (.v (.int .u64 9259542123273814144)),some (30,true)⟩),(11,⟨some 38,.bin .eql (.t 37) (.v (.int .u64 0)),some (30,true)⟩),(12,⟨some 39,.pick (.t 30) (.t 38) (.v (.bool false)),none⟩)]]
def r8 : List AO := [⟨some 40,.mv (.t 0),none⟩,⟨some 41,.slc true 1 (.t 40) (some (.v (.int .i64 16))) none,none⟩,⟨some 0,.asg (.t 41),none⟩]
def r9 : List Ph := [.bag false [] [] [(0,⟨some 42,.mv (.t 0),none⟩),(1,⟨some 43,.len true (.t 42),none⟩),(2,⟨some 44,.bin .gtr (.t 43) (.v (.int .i64 32)),none⟩),(3,⟨some 45,.mv (.t 44),none⟩),(4,⟨some 46,.mv (.t 0),some (45,true)⟩),(5,⟨some 47,.call .deep (.v (.clo F.unicode_utf8_word_string [] [])) [.t 46],some (45,true)⟩),(6,⟨some 48,.mv (.t 0),some (45,true)⟩),(7,⟨some 49,.slc true 1 (.t 48) (some (.v (.int .i64 8))) none,some (45,true)⟩),(8,⟨some 50,.call .deep (.v (.clo F.unicode_utf8_word_string [] [])) [.t 49],some (45,true)⟩),(9,⟨some 51,.bin .or (.t 47) (.t 50),some (45,true)⟩),(10,⟨some 52,.mv (.t 0),some (45,true)⟩),(11,⟨some 53,.slc true 1 (.t 52) (some (.v (.int .i64 16))) none,some (45,true)⟩),(12,⟨some 54,.call .deep (.v (.clo F.unicode_utf8_word_string [] [])) [.t 53],some (45,true)⟩),(13,⟨some 55,.mv (.t 0),some (45,true)⟩),(14,⟨some 56,.slc true 1 (.t 55) (some (.v (.int .i64 24))) none,some (45,true)⟩),(15,⟨some 57,.call .deep (.v (.clo F.unicode_utf8_word_string [] [])) [.t 56],some (45,true)⟩),(16,⟨some 58,.bin .or (.t 54) (.t 57),some (45,true)⟩),(17,⟨some 59,.bin .or (.t 51) (.t 58),some (45,true)⟩),(18,⟨some 60,.bin .and (.t 59) (.v (.int .u64 9259542123273814144)),some (45,true)⟩),(19,⟨some 61,.bin .eql (.t 60) (.v (.int .u64 0)),some (45,true)⟩),(20,⟨some 62,.pick (.t 45) (.t 61) (.v (.bool false)),none⟩)]]
def r10 : List AO := [⟨some 63,.mv (.t 0),none⟩,⟨some 64,.slc true 1 (.t 63) (some (.v (.int .i64 32))) none,none⟩,⟨some 0,.asg (.t 64),none⟩]
def l2 : AC := .seq (.seq (.dreg r9 [0,62]) (.cond (.t 62) (.skip) (.exit 2))) (.block 3 (.reg r10 [0]))
def r11 : List AO := [⟨some 65,.mv (.t 3),none⟩,⟨some 66,.iadrA 256 1 (.v (.vptr (zavs firZ))) (.t 65),none⟩,⟨some 67,.load 1 false (.t 66),none⟩,⟨some 4,.asg (.t 67),none⟩]
def r12 : List AO := [⟨some 68,.mv (.t 4),none⟩,⟨some 69,.bin .and (.t 68) (.v (.int .u8 7)),none⟩,⟨some 70,.conv (.int .i64) (.t 69),none⟩,⟨some 5,.asg (.t 70),none⟩]
def r13 : List AO := [⟨some 71,.mv (.t 4),none⟩,⟨some 72,.bin .shr (.t 71) (.v (.int .u64 4)),none⟩,⟨some 73,.iadrA 16 2 (.v (.vptr (zavs accZ))) (.t 72),none⟩,⟨some 74,.load 2 true (.t 73),none⟩,⟨some 6,.alloc [.av (.int .u8 0),.av (.int .u8 0)],none⟩,⟨none,.store 2 (.t 6) (.t 74),none⟩]
def r14 : List AO := [⟨some 75,.mv (.t 5),none⟩]
def r16 : List AO := [⟨some 77,.bin .eql (.t 75) (.v (.int .i64 2)),none⟩,⟨some 76,.asg (.t 77),none⟩]
def r17 : List Ph := [.bag false [] [] [(0,⟨some 78,.mv (.t 0),none⟩),(1,⟨some 79,.len true (.t 78),none⟩),(2,⟨some 80,.bin .lss (.t 79) (.v (.int .i64 2)),none⟩),(3,⟨some 81,.mv (.t 80),none⟩),(4,⟨some 82,.mv (.t 0),some (81,false)⟩),(5,⟨some 83,.idxS (.t 82) (.v (.int .i64 1)),some (81,false)⟩),(6,⟨some 84,.fadr 0 (.t 6),some (81,false)⟩),(7,⟨some 85,.load 1 false (.t 84),some (81,false)⟩),(8,⟨some 86,.bin .lss (.t 83) (.t 85),some (81,false)⟩),(9,⟨some 87,.pick (.t 81) (.v (.bool true)) (.t 86),none⟩),(10,⟨some 88,.mv (.t 87),none⟩),(11,⟨some 89,.fadr 1 (.t 6),some (88,false)⟩),(12,⟨some 90,.load 1 false (.t 89),some (88,false)⟩),(13,⟨some 91,.mv (.t 0),some (88,false)⟩),(14,⟨some 92,.idxS (.t 91) (.v (.int .i64 1)),some (88,false)⟩),(15,⟨some 93,.bin .lss (.t 90) (.t 92),some (88,false)⟩),(16,⟨some 94,.pick (.t 88) (.v (.bool true)) (.t 93),none⟩)]]
def r18 : List AO := [⟨some 2,.asg (.v (.bool false)),none⟩]
def r19 : List AO := [⟨some 95,.mv (.t 0),none⟩,⟨some 96,.slc true 1 (.t 95) (some (.v (.int .i64 2))) none,none⟩,⟨some 0,.asg (.t 96),none⟩]
def r20 : List AO := [⟨some 98,.bin .eql (.t 75) (.v (.int .i64 3)),none⟩,⟨some 97,.asg (.t 98),none⟩]
def r21 : List Ph := [.bag false [] [] [(0,⟨some 99,.mv (.t 0),none⟩),(1,⟨some 100,.len true (.t 99),none⟩),(2,⟨some 101,.bin .lss (.t 100) (.v (.int .i64 3)),none⟩),(3,⟨some 102,.mv (.t 101),none⟩),(4,⟨some 103,.mv (.t 0),some (102,false)⟩),(5,⟨some 104,.idxS (.t 103) (.v (.int .i64 1)),some (102,false)⟩),(6,⟨some 105,.fadr 0 (.t 6),some (102,false)⟩),(7,⟨some 106,.load 1 false (.t 105),some (102,false)⟩),(8,⟨some 107,.bin .lss (.t 104) (.t 106),some (102,false)⟩),(9,⟨some 108,.pick (.t 102) (.v (.bool true)) (.t 107),none⟩),(10,⟨some 109,.mv (.t 108),none⟩),(11,⟨some 110,.fadr 1 (.t 6),some (109,false)⟩),(12,⟨some 111,.load 1 false (.t 110),some (109,false)⟩),(13,⟨some 112,.mv (.t 0),some (109,false)⟩),(14,⟨some 113,.idxS (.t 112) (.v (.int .i64 1)),some (109,false)⟩),(15,⟨some 114,.bin .lss (.t 111) (.t 113),some (109,false)⟩),(16,⟨some 115,.pick (.t 109) (.v (.bool true)) (.t 114),none⟩),(17,⟨some 116,.mv (.t 115),none⟩),(18,⟨some 117,.mv (.t 0),some (116,false)⟩),(19,⟨some 118,.idxS (.t 117) (.v (.int .i64 2)),some (116,false)⟩),(20,⟨some 119,.bin .lss (.t 118) (.v (.int .u8 128)),some (116,false)⟩),(21,⟨some 120,.pick (.t 116) (.v (.bool true)) (.t 119),none⟩),(22,⟨some 121,.mv (.t 120),none⟩),(23,⟨some 122,.mv (.t 0),some (121,false)⟩),(24,⟨some 123,.idxS (.t 122) (.v (.int .i64 2)),some (121,false)⟩),(25,⟨some 124,.bin .lss (.v (.int .u8 191)) (.t 123),some (121,false)⟩),(26,⟨some 125,.pick (.t 121) (.v (.bool true)) (.t 124),none⟩)]]
def r22 : List AO := [⟨some 2,.asg (.v (.bool false)),none⟩]
def r23 : List AO := [⟨some 126,.mv (.t 0),none⟩,⟨some 127,.slc true 1 (.t 126) (some (.v (.int .i64 3))) none,none⟩,⟨some 0,.asg (.t 127),none⟩]
def r24 : List AO := [⟨some 129,.bin .eql (.t 75) (.v (.int .i64 4)),none⟩,⟨some 128,.asg (.t 129),none⟩]
def r25 : List Ph := [.bag false [] [] [(0,⟨some 130,.mv (.t 0),none⟩),(1,⟨some 131,.len true (.t 130),none⟩),(2,⟨some 132,.bin .lss (.t 131) (.v (.int .i64 4)),none⟩),(3,⟨some 133,.mv (.t 132),none⟩),(4,⟨some 134,.mv (.t 0),some (133,false)⟩),(5,⟨some 135,.idxS (.t 134) (.v (.int .i64 1)),some (133,false)⟩),(6,⟨some 136,.fadr 0 (.t 6),some (133,false)⟩),(7,⟨some 137,.load 1 false (.t 136),some (133,false)⟩),(8,⟨some 138,.bin .lss (.t 135) (.t 137),some (133,false)⟩),(9,⟨some 139,.pick (.t 133) (.v (.bool true)) (.t 138),none⟩),(10,⟨some 140,.mv (.t 139),none⟩),(11,⟨some 141,.fadr 1 (.t 6),some (140,false)⟩),(12,⟨some 142,.load 1 false (.t 141),some (140,false)⟩),(13,⟨some 143,.mv (.t 0),some (140,false)⟩),(14,⟨some 144,.idxS (.t 143) (.v (.int .i64 1)),some (140,false)⟩),(15,⟨some 145,.bin .lss (.t 142) (.t 144),some (140,false)⟩),(16,⟨some 146,.pick (.t 140) (.v (.bool true)) (.t 145),none⟩),(17,⟨some 147,.mv (.t 146),none⟩),(18,⟨some 148,.mv (.t 0),some (147,false)⟩),(19,⟨some 149,.idxS (.t 148) (.v (.int .i64 2)),some (147,false)⟩),(20,⟨some 150,.bin .lss (.t 149) (.v (.int .u8 128)),some (147,false)⟩),(21,⟨some 151,.pick (.t 147) (.v (.bool true)) (.t 150),none⟩),(22,⟨some 152,.mv (.t 151),none⟩),(23,⟨some 153,.mv (.t 0),some (152,false)⟩),(24,⟨some 154,.idxS (.t 153) (.v (.int .i64 2)),some (152,false)⟩),(25,⟨some 155,.bin .lss (.v (.int .u8 191)) (.t 154),some (152,false)⟩),(26,⟨some 156,.pick (.t 152) (.v (.bool true)) (.t 155),none⟩),(27,⟨some 157,.mv (.t 156),none⟩),(28,⟨some 158,.mv (.t 0),some (157,false)⟩),(29,⟨some 159,.idxS (.t 158) (.v (.int .i64 3)),some (157,false)⟩),(30,⟨some 160,.bin .lss (.t 159) (.v (.int .u8 128)),some (157,false)⟩),(31,⟨some 161,.pick (.t 157) (.v (.bool true)) (.t 160),none⟩),(32,⟨some 162,.mv (.t 161),none⟩),(33,⟨some 163,.mv (.t 0),some (162,false)⟩),(34,⟨some 164,.idxS (.t 163) (.v (.int .i64 3)),some (162,false)⟩),(35,⟨some 165,.bin .lss (.v (.int .u8 191)) (.t 164),some (162,false)⟩),(36,⟨some 166,.pick (.t 162) (.v (.bool true)) (.t 165),none⟩)]]
def r26 : List AO := [⟨some 2,.asg (.v (.bool false)),none⟩]
def r27 : List AO := [⟨some 167,.mv (.t 0),none⟩,⟨some 168,.slc true 1 (.t 167) (some (.v (.int .i64 4))) none,none⟩,⟨some 0,.asg (.t 168),none⟩]
def r15 : List AO := [⟨some 2,.asg (.v (.bool false)),none⟩]
def l1 : AC := .seq (.seq (.reg r1 [0,9]) (.cond (.t 9) (.skip) (.exit 0))) (.block 1 (.seq (.reg r2 [0,3]) (.seq (.seq (.reg r3 [0,3,13]) (.cond (.t 13) (.seq (.reg r4 [0]) (.seq (.seq (.reg r5 [0,24]) (.cond (.t 24) (.seq (.reg r6 [0]) (.seq (.dreg r7 [0,39]) (.cond (.t 39) (.seq (.reg r8 [0]) (.block 2 (.loop [0] l2))) (.skip)))) (.skip))) (.exit 1))) (.skip))) (.seq (.reg r11 [0,4]) (.seq (.reg r12 [0,4,5]) (.seq (.reg r13 [0,5,6]) (.seq (.reg r14 [0,6,75]) (.block 4 (.seq (.reg r16 [0,6,75,76]) (.cond (.t 76) (.seq (.seq (.dreg r17 [0,94]) (.cond (.t 94) (.seq (.reg r18 [2]) (.ret)) (.skip))) (.reg r19 [0])) (.seq (.reg r20 [0,6,75,97]) (.cond (.t 97) (.seq (.seq (.dreg r21 [0,125]) (.cond (.t 125) (.seq (.reg r22 [2]) (.ret)) (.skip))) (.reg r23 [0])) (.seq (.reg r24 [0,6,128]) (.cond (.t 128) (.seq (.seq (.dreg r25 [0,166]) (.cond (.t 166) (.seq (.reg r26 [2]) (.ret)) (.skip))) (.reg r27 [0])) (.seq (.reg r15 [2]) (.ret))))))))))))))))
def r28 : List AO := [⟨some 2,.asg (.v (.bool true)),none⟩]
def body : AC := .seq (.reg r0 [0]) (.seq (.block 0 (.loop [0] l1)) (.seq (.reg r28 [2]) (.ret)))
def fn : AFun := ⟨[.val],169,[.tmp 2],[],body⟩
end unicode_utf8_ValidString
namespace slices_ContainsFunc_LV
def r0 : List AO := [⟨some 4,.asg (.v (.bool false)),none⟩]
def r1 : List AO := [⟨some 5,.mv (.t 0),none⟩,⟨some 6,.mv (.t 1),none⟩,⟨some 7,.call .deep (.v (.clo F.slices_IndexFunc_LV [] [])) [.t 5,.t 6],none⟩,⟨some 8,.bin .geq (.t 7) (.v (.int .i64 0)),none⟩,⟨some 4,.asg (.t 8),none⟩]
def body : AC := .seq (.reg r0 [0,1]) (.seq (.reg r1 [4]) (.ret))
def fn : AFun := ⟨[.val,.val],9,[.tmp 4],[],body⟩
end slices_ContainsFunc_LV
namespace value_allFormed_S1
def r0 : List AO := [⟨some 1,.box (.t 0),none⟩,⟨some 2,.asg (.v (.bool false)),none⟩]
def r1 : List AO := [⟨some 3,.take 5 true (.t 1),none⟩,⟨some 4,.call .deep (.v (.clo F.value_Formed [] [])) [.t 3],none⟩,⟨some 5,.un .not (.t 4),none⟩,⟨some 2,.asg (.t 5),none⟩]
def body : AC := .seq (.reg r0 [1]) (.seq (.reg r1 [2]) (.ret))
def fn : AFun := ⟨[.val],6,[.tmp 2],[],body⟩
end value_allFormed_S1
namespace cmp_Less_string
def r0 : List AO := [⟨some 4,.asg (.v (.bool false)),none⟩]
def r1 : List AO := [⟨some 5,.mv (.t 0),none⟩,⟨some 6,.call .deep (.v (.clo F.cmp_isNaN_string [] [])) [.t 5],none⟩,⟨some 7,.mv (.t 6),none⟩,⟨some 8,.mv (.t 1),some (7,true)⟩,⟨some 9,.call .deep (.v (.clo F.cmp_isNaN_string [] [])) [.t 8],some (7,true)⟩,⟨some 10,.un .not (.t 9),some (7,true)⟩,⟨some 11,.pick (.t 7) (.t 10) (.v (.bool false)),none⟩,⟨some 12,.mv (.t 11),none⟩,⟨some 13,.mv (.t 0),some (12,false)⟩,⟨some 14,.mv (.t 1),some (12,false)⟩,⟨some 15,.bin .lss (.t 13) (.t 14),some (12,false)⟩,⟨some 16,.pick (.t 12) (.v (.bool true)) (.t 15),none⟩,⟨some 4,.asg (.t 16),none⟩]
def body : AC := .seq (.reg r0 [0,1]) (.seq (.reg r1 [4]) (.ret))
def fn : AFun := ⟨[.val,.val],17,[.tmp 4],[],body⟩
end cmp_Less_string
namespace slices_isNaN_string
def r0 : List AO := [⟨some 2,.asg (.v (.bool false)),none⟩]
def r1 : List AO := [⟨some 3,.mv (.t 0),none⟩,⟨some 4,.mv (.t 0),none⟩,⟨some 5,.bin .neq (.t 3) (.t 4),none⟩,⟨some 2,.asg (.t 5),none⟩]
def body : AC := .seq (.reg r0 [0]) (.seq (.reg r1 [2]) (.ret))
def fn : AFun := ⟨[.val],6,[.tmp 2],[],body⟩
end slices_isNaN_string
namespace slices_IndexFunc_LV
def r0 : List AO := [⟨some 4,.asg (.v (.int .i64 0)),none⟩]
def r1 : List AO := [⟨some 6,.mv (.t 0),none⟩,⟨some 7,.len false (.t 6),none⟩,⟨some 8,.mv (.v (.int .i64 0)),none⟩]
def r2 : List AO := [⟨some 9,.bin .lss (.t 8) (.t 7),none⟩]
def r3 : List AO := [⟨some 10,.mv (.t 8),none⟩,⟨some 5,.asg (.t 10),none⟩]
def r4 : List AO := [⟨some 11,.mv (.t 1),none⟩,⟨some 12,.mv (.t 0),none⟩,⟨some 13,.mv (.t 5),none⟩,⟨some 14,.iadr 5 (.t 12) (.t 13),none⟩,⟨some 15,.load 5 true (.t 14),none⟩,⟨some 16,.call .deep (.t 11) [.t 15],none⟩]
def r5 : List AO := [⟨some 17,.mv (.t 5),none⟩,⟨some 4,.asg (.t 17),none⟩]
def r6 : List AO := [⟨some 18,.bin .add (.t 8) (.v (.int .i64 1)),none⟩,⟨some 8,.mv (.t 18),none⟩]
def l1 : AC := .seq (.reg r2 [0,1,7,8,9]) (.seq (.cond (.t 9) (.skip) (.exit 0)) (.seq (.block 1 (.seq (.reg r3 [0,1,5,7,8]) (.seq (.reg r4 [0,1,5,7,8,16]) (.cond (.t 16) (.seq (.reg r5 [4]) (.ret)) (.skip))))) (.reg r6 [0,1,7,8])))
def r7 : List AO := [⟨some 4,.asg (.v (.int .i64 (-1))),none⟩]
def body : AC := .seq (.reg r0 [0,1]) (.seq (.seq (.reg r1 [0,1,7,8]) (.block 0 (.loop [0,1,7,8] l1))) (.seq (.reg r7 [4]) (.ret)))
def fn : AFun := ⟨[.val,.val],19,[.tmp 4],[],body⟩
end slices_IndexFunc_LV
namespace unicode_utf8_word_string
def r0 : List AO := [⟨some 2,.asg (.v (.int .u64 0)),none⟩]
def r1 : List Ph := [.bag false [] [] [(0,⟨some 3,.mv (.t 0),none⟩),(1,⟨some 4,.idxS (.t 3) (.v (.int .i64 0)),none⟩),(2,⟨some 5,.conv (.int .u64) (.t 4),none⟩),(3,⟨some 6,.mv (.t 0),none⟩),(4,⟨some 7,.idxS (.t 6) (.v (.int .i64 1)),none⟩),(5,⟨some 8,.conv (.int .u64) (.t 7),none⟩),(6,⟨some 9,.bin .shl (.t 8) (.v (.int .u64 8)),none⟩),(7,⟨some 10,.bin .or (.t 5) (.t 9),none⟩),(8,⟨some 11,.mv (.t 0),none⟩),(9,⟨some 12,.idxS (.t 11) (.v (.int .i64 2)),none⟩),(10,⟨some 13,.conv (.int .u64) (.t 12),none⟩),(11,⟨some 14,.bin .shl (.t 13) (.v (.int .u64 16)),none⟩),(12,⟨some 15,.bin .or (.t 10) (.t 14),none⟩),(13,⟨some 16,.mv (.t 0),none⟩),(14,⟨some 17,.idxS (.t 16) (.v (.int .i64 3)),none⟩),(15,⟨some 18,.conv (.int .u64) (.t 17),none⟩),(16,⟨some 19,.bin .shl (.t 18) (.v (.int .u64 24)),none⟩),(17,⟨some 20,.bin .or (.t 15) (.t 19),none⟩),(18,⟨some 2,.asg (.t 20),none⟩)]]
def r2 : List Ph := [.bag false [] [] [(0,⟨some 21,.mv (.t 0),none⟩),(1,⟨some 22,.idxS (.t 21) (.v (.int .i64 0)),none⟩),(2,⟨some 23,.conv (.int .u64) (.t 22),none⟩),(3,⟨some 24,.mv (.t 0),none⟩),(4,⟨some 25,.idxS (.t 24) (.v (.int .i64 1)),none⟩),(5,⟨some 26,.conv (.int .u64) (.t 25),none⟩),(6,⟨some 27,.bin .shl (.t 26) (.v (.int .u64 8)),none⟩),(7,⟨some 28,.bin .or (.t 23) (.t 27),none⟩),(8,⟨some 29,.mv (.t 0),none⟩),(9,⟨some 30,.idxS (.t 29) (.v (.int .i64 2)),none⟩),(10,⟨some 31,.conv (.int .u64) (.t 30),none⟩),(11,⟨some 32,.bin .shl (.t 31) (.v (.int .u64 16)),none⟩),(12,⟨some 33,.bin .or (.t 28) (.t 32),none⟩),(13,⟨some 34,.mv (.t 0),none⟩),(14,⟨some 35,.idxS (.t 34) (.v (.int .i64 3)),none⟩),(15,⟨some 36,.conv (.int .u64) (.t 35),none⟩),(16,⟨some 37,.bin .shl (.t 36) (.v (.int .u64 24)),none⟩),(17,⟨some 38,.bin .or (.t 33) (.t 37),none⟩),(18,⟨some 39,.mv (.t 0),none⟩),(19,⟨some 40,.idxS (.t 39) (.v (.int .i64 4)),none⟩),(20,⟨some 41,.conv (.int .u64) (.t 40),none⟩),(21,⟨some 42,.bin .shl (.t 41) (.v (.int .u64 32)),none⟩),(22,⟨some 43,.bin .or (.t 38) (.t 42),none⟩),(23,⟨some 44,.mv (.t 0),none⟩),(24,⟨some 45,.idxS (.t 44) (.v (.int .i64 5)),none⟩),(25,⟨some 46,.conv (.int .u64) (.t 45),none⟩),(26,⟨some 47,.bin .shl (.t 46) (.v (.int .u64 40)),none⟩),(27,⟨some 48,.bin .or (.t 43) (.t 47),none⟩),(28,⟨some 49,.mv (.t 0),none⟩),(29,⟨some 50,.idxS (.t 49) (.v (.int .i64 6)),none⟩),(30,⟨some 51,.conv (.int .u64) (.t 50),none⟩),(31,⟨some 52,.bin .shl (.t 51) (.v (.int .u64 48)),none⟩),(32,⟨some 53,.bin .or (.t 48) (.t 52),none⟩),(33,⟨some 54,.mv (.t 0),none⟩),(34,⟨some 55,.idxS (.t 54) (.v (.int .i64 7)),none⟩),(35,⟨some 56,.conv (.int .u64) (.t 55),none⟩),(36,⟨some 57,.bin .shl (.t 56) (.v (.int .u64 56)),none⟩),(37,⟨some 58,.bin .or (.t 53) (.t 57),none⟩),(38,⟨some 2,.asg (.t 58),none⟩)]]
def body : AC := .seq (.reg r0 [0]) (.seq (.cond (.v (.bool false)) (.seq (.dreg r1 [2]) (.ret)) (.skip)) (.seq (.dreg r2 [2]) (.ret)))
def fn : AFun := ⟨[.val],59,[.tmp 2],[],body⟩
end unicode_utf8_word_string
namespace h09_Formed
def r0 : List AO := [⟨some 1,.box (.t 0),none⟩,⟨some 2,.asg (.v (.bool false)),none⟩]
def r1 : List AO := [⟨some 3,.fadr 0 (.t 1),none⟩,⟨some 4,.load 1 false (.t 3),none⟩,⟨some 5,.mv (.t 4),none⟩,⟨some 6,.load 9 true (.t 1),some (5,true)⟩,⟨some 7,.call .deep (.v (.clo F.h09_Bare [] [])) [.t 6],some (5,true)⟩,⟨some 8,.un .not (.t 7),some (5,true)⟩,⟨some 9,.pick (.t 5) (.t 8) (.v (.bool false)),none⟩]
def r2 : List AO := [⟨some 2,.asg (.v (.bool false)),none⟩]
def r3 : List AO := [⟨some 10,.fadr 6 (.t 1),none⟩,⟨some 11,.load 1 false (.t 10),none⟩,⟨some 12,.call .deep (.v (.clo F.h03_Rise [] [])) [.t 11],none⟩,⟨some 13,.un .not (.t 12),none⟩,⟨some 14,.mv (.t 13),none⟩,⟨some 15,.fadr 5 (.t 1),some (14,false)⟩,⟨some 16,.load 1 false (.t 15),some (14,false)⟩,⟨some 17,.mv (.t 16),some (14,false)⟩,⟨some 18,.fadr 6 (.t 1),some (17,true)⟩,⟨some 19,.load 1 false (.t 18),some (17,true)⟩,⟨some 20,.len false (.t 19),some (17,true)⟩,⟨some 21,.bin .gtr (.t 20) (.v (.int .i64 0)),some (17,true)⟩,⟨some 22,.pick (.t 17) (.t 21) (.v (.bool false)),some (14,false)⟩,⟨some 23,.pick (.t 14) (.v (.bool true)) (.t 22),none⟩]
def r4 : List AO := [⟨some 2,.asg (.v (.bool false)),none⟩]
def r5 : List AO := [⟨some 24,.fadr 4 (.t 1),none⟩,⟨some 25,.load 1 false (.t 24),none⟩,⟨some 26,.call .deep (.v (.clo F.h09_Spans [] [])) [.t 25],none⟩,⟨some 27,.mv (.t 26),none⟩,⟨some 28,.fadr 7 (.t 1),some (27,true)⟩,⟨some 29,.load 1 false (.t 28),some (27,true)⟩,⟨some 30,.call .deep (.v (.clo F.h09_arrays [] [])) [.t 29],some (27,true)⟩,⟨some 31,.pick (.t 27) (.t 30) (.v (.bool false)),none⟩,⟨some 32,.mv (.t 31),none⟩,⟨some 33,.fadr 8 (.t 1),some (32,true)⟩,⟨some 34,.take 1 false (.t 33),some (32,true)⟩,⟨some 35,.call .deep (.v (.clo F.h09_objects [] [])) [.t 34],some (32,true)⟩,⟨some 36,.pick (.t 32) (.t 35) (.v (.bool false)),none⟩,⟨some 2,.asg (.t 36),none⟩]
def body : AC := .seq (.reg r0 [1]) (.seq (.seq (.reg r1 [1,9]) (.cond (.t 9) (.seq (.reg r2 [2]) (.ret)) (.skip))) (.seq (.seq (.reg r3 [1,23]) (.cond (.t 23) (.seq (.reg r4 [2]) (.ret)) (.skip))) (.seq (.reg r5 [2]) (.ret))))
def fn : AFun := ⟨[.val],37,[.tmp 2],[],body⟩
end h09_Formed
namespace h09_Bare
def r0 : List AO := [⟨some 1,.box (.t 0),none⟩,⟨some 2,.asg (.v (.bool false)),none⟩]
def r1 : List AO := [⟨some 4,.fadr 1 (.t 1),none⟩,⟨some 5,.load 1 false (.t 4),none⟩,⟨some 6,.mv (.t 5),none⟩,⟨some 7,.fadr 2 (.t 1),some (6,false)⟩,⟨some 8,.load 1 false (.t 7),some (6,false)⟩,⟨some 9,.pick (.t 6) (.v (.bool true)) (.t 8),none⟩,⟨some 10,.mv (.t 9),none⟩,⟨some 11,.fadr 3 (.t 1),some (10,false)⟩,⟨some 12,.load 1 false (.t 11),some (10,false)⟩,⟨some 13,.pick (.t 10) (.v (.bool true)) (.t 12),none⟩,⟨some 14,.mv (.t 13),none⟩,⟨some 15,.fadr 5 (.t 1),some (14,false)⟩,⟨some 16,.load 1 false (.t 15),some (14,false)⟩,⟨some 17,.pick (.t 14) (.v (.bool true)) (.t 16),none⟩,⟨some 3,.asg (.t 17),none⟩]
def r2 : List AO := [⟨some 18,.mv (.t 3),none⟩,⟨some 19,.un .not (.t 18),none⟩,⟨some 20,.mv (.t 19),none⟩,⟨some 21,.fadr 4 (.t 1),some (20,true)⟩,⟨some 22,.load 1 false (.t 21),some (20,true)⟩,⟨some 23,.len false (.t 22),some (20,true)⟩,⟨some 24,.bin .eql (.t 23) (.v (.int .i64 0)),some (20,true)⟩,⟨some 25,.pick (.t 20) (.t 24) (.v (.bool false)),none⟩,⟨some 26,.mv (.t 25),none⟩,⟨some 27,.fadr 6 (.t 1),some (26,true)⟩,⟨some 28,.load 1 false (.t 27),some (26,true)⟩,⟨some 29,.len false (.t 28),some (26,true)⟩,⟨some 30,.bin .eql (.t 29) (.v (.int .i64 0)),some (26,true)⟩,⟨some 31,.pick (.t 26) (.t 30) (.v (.bool false)),none⟩,⟨some 32,.mv (.t 31),none⟩,⟨some 33,.fadr 7 (.t 1),some (32,true)⟩,⟨some 34,.load 1 false (.t 33),some (32,true)⟩,⟨some 35,.len false (.t 34),some (32,true)⟩,⟨some 36,.bin .eql (.t 35) (.v (.int .i64 0)),some (32,true)⟩,⟨some 37,.pick (.t 32) (.t 36) (.v (.bool false)),none⟩,⟨some 38,.mv (.t 37),none⟩,⟨some 39,.fadr 8 (.t 1),some (38,true)⟩,⟨some 40,.take 1 false (.t 39),some (38,true)⟩,⟨some 41,.len false (.t 40),some (38,true)⟩,⟨some 42,.bin .eql (.t 41) (.v (.int .i64 0)),some (38,true)⟩,⟨some 43,.pick (.t 38) (.t 42) (.v (.bool false)),none⟩,⟨some 2,.asg (.t 43),none⟩]
def body : AC := .seq (.reg r0 [1]) (.seq (.reg r1 [1,3]) (.seq (.reg r2 [2]) (.ret)))
def fn : AFun := ⟨[.val],44,[.tmp 2],[],body⟩
end h09_Bare
namespace h09_Spans
def r0 : List AO := [⟨some 2,.asg (.v (.bool false)),none⟩]
def r1 : List AO := [⟨some 4,.mv (.t 0),none⟩,⟨some 5,.len false (.t 4),none⟩,⟨some 6,.bin .gtr (.t 5) (.v (.int .i64 1)),none⟩]
def r2 : List AO := [⟨some 2,.asg (.v (.bool false)),none⟩]
def r3 : List AO := [⟨some 3,.asg (.v (.int .i64 0)),none⟩]
def r4 : List AO := [⟨some 7,.mv (.t 3),none⟩,⟨some 8,.mv (.t 0),none⟩,⟨some 9,.len false (.t 8),none⟩,⟨some 10,.bin .lss (.t 7) (.t 9),none⟩]
def r6 : List AO := [⟨some 13,.mv (.t 0),none⟩,⟨some 14,.mv (.t 3),none⟩,⟨some 15,.iadr 2 (.t 13) (.t 14),none⟩,⟨some 16,.fadr 0 (.t 15),none⟩,⟨some 17,.load 1 false (.t 16),none⟩,⟨some 18,.call .deep (.v (.clo F.h09_bound [] [])) [.t 17],none⟩,⟨some 19,.un .not (.t 18),none⟩,⟨some 20,.mv (.t 19),none⟩,⟨some 21,.mv (.t 0),some (20,false)⟩,⟨some 22,.mv (.t 3),some (20,false)⟩,⟨some 23,.iadr 2 (.t 21) (.t 22),some (20,false)⟩,⟨some 24,.fadr 1 (.t 23),some (20,false)⟩,⟨some 25,.load 1 false (.t 24),some (20,false)⟩,⟨some 26,.call .deep (.v (.clo F.h09_bound [] [])) [.t 25],some (20,false)⟩,⟨some 27,.un .not (.t 26),some (20,false)⟩,⟨some 28,.pick (.t 20) (.v (.bool true)) (.t 27),none⟩]
def r7 : List AO := [⟨some 2,.asg (.v (.bool false)),none⟩]
def r8 : List Ph := [.bag false [] [] [(0,⟨some 29,.mv (.t 0),none⟩),(1,⟨some 30,.mv (.t 3),none⟩),(2,⟨some 31,.iadr 2 (.t 29) (.t 30),none⟩),(3,⟨some 32,.fadr 0 (.t 31),none⟩),(4,⟨some 33,.load 1 false (.t 32),none⟩),(5,⟨some 34,.bin .neq (.t 33) (.v (.str [])),none⟩),(6,⟨some 35,.mv (.t 34),none⟩),(7,⟨some 36,.mv (.t 0),some (35,true)⟩),(8,⟨some 37,.mv (.t 3),some (35,true)⟩),(9,⟨some 38,.iadr 2 (.t 36) (.t 37),some (35,true)⟩),(10,⟨some 39,.fadr 1 (.t 38),some (35,true)⟩),(11,⟨some 40,.load 1 false (.t 39),some (35,true)⟩),(12,⟨some 41,.bin .neq (.t 40) (.v (.str [])),some (35,true)⟩),(13,⟨some 42,.pick (.t 35) (.t 41) (.v (.bool false)),none⟩),(14,⟨some 43,.mv (.t 42),none⟩),(15,⟨some 44,.mv (.t 0),some (43,true)⟩),(16,⟨some 45,.mv (.t 3),some (43,true)⟩),(17,⟨some 46,.iadr 2 (.t 44) (.t 45),some (43,true)⟩),(18,⟨some 47,.fadr 0 (.t 46),some (43,true)⟩),(19,⟨some 48,.load 1 false (.t 47),some (43,true)⟩),(20,⟨some 49,.mv (.t 0),some (43,true)⟩),(21,⟨some 50,.mv (.t 3),some (43,true)⟩),(22,⟨some 51,.iadr 2 (.t 49) (.t 50),some (43,true)⟩),(23,⟨some 52,.fadr 1 (.t 51),some (43,true)⟩),(24,⟨some 53,.load 1 false (.t 52),some (43,true)⟩),(25,⟨some 54,.call .deep (.v (.clo F.h03_Numbers [] [])) [.t 48,.t 53],some (43,true)⟩),(26,⟨some 55,.bin .gtr (.t 54) (.v (.int .i64 0)),some (43,true)⟩),(27,⟨some 56,.pick (.t 43) (.t 55) (.v (.bool false)),none⟩)]]
def r9 : List AO := [⟨some 2,.asg (.v (.bool false)),none⟩]
def r5 : List AO := [⟨some 11,.mv (.t 3),none⟩,⟨some 12,.bin .add (.t 11) (.v (.int .i64 1)),none⟩,⟨some 3,.asg (.t 12),none⟩]
def l1 : AC := .seq (.seq (.reg r4 [0,3,10]) (.cond (.t 10) (.skip) (.exit 0))) (.seq (.block 1 (.seq (.seq (.reg r6 [0,3,28]) (.cond (.t 28) (.seq (.reg r7 [2]) (.ret)) (.skip))) (.seq (.dreg r8 [0,3,56]) (.cond (.t 56) (.seq (.reg r9 [2]) (.ret)) (.skip))))) (.reg r5 [0,3]))
def r10 : List AO := [⟨some 2,.asg (.v (.bool true)),none⟩]
def body : AC := .seq (.reg r0 [0]) (.seq (.seq (.reg r1 [0,6]) (.cond (.t 6) (.seq (.reg r2 [2]) (.ret)) (.skip))) (.seq (.seq (.reg r3 [0,3]) (.block 0 (.loop [0,3] l1))) (.seq (.reg r10 [2]) (.ret))))
def fn : AFun := ⟨[.val],57,[.tmp 2],[],body⟩
end h09_Spans
namespace h09_arrays
def r0 : List AO := [⟨some 2,.asg (.v (.bool false)),none⟩]
def r1 : List AO := [⟨some 4,.mv (.t 0),none⟩,⟨some 5,.len false (.t 4),none⟩,⟨some 6,.bin .gtr (.t 5) (.v (.int .i64 1)),none⟩]
def r2 : List AO := [⟨some 2,.asg (.v (.bool false)),none⟩]
def r3 : List AO := [⟨some 3,.asg (.v (.int .i64 0)),none⟩]
def r4 : List AO := [⟨some 7,.mv (.t 3),none⟩,⟨some 8,.mv (.t 0),none⟩,⟨some 9,.len false (.t 8),none⟩,⟨some 10,.bin .lss (.t 7) (.t 9),none⟩]
def r6 : List Ph := [.bag false [] [] [(0,⟨some 13,.mv (.t 0),none⟩),(1,⟨some 14,.mv (.t 3),none⟩),(2,⟨some 15,.iadr 11 (.t 13) (.t 14),none⟩),(3,⟨some 16,.fadr 9 (.t 15),none⟩),(4,⟨some 17,.load 1 false (.t 16),none⟩),(5,⟨some 18,.bin .lss (.t 17) (.v (.int .i64 0)),none⟩),(6,⟨some 19,.mv (.t 18),none⟩),(7,⟨some 20,.mv (.t 0),some (19,false)⟩),(8,⟨some 21,.mv (.t 3),some (19,false)⟩),(9,⟨some 22,.iadr 11 (.t 20) (.t 21),some (19,false)⟩),(10,⟨some 23,.fadr 10 (.t 22),some (19,false)⟩),(11,⟨some 24,.load 1 false (.t 23),some (19,false)⟩),(12,⟨some 25,.bin .lss (.t 24) (.v (.int .i64 (-1))),some (19,false)⟩),(13,⟨some 26,.pick (.t 19) (.v (.bool true)) (.t 25),none⟩),(14,⟨some 27,.mv (.t 26),none⟩),(15,⟨some 28,.mv (.t 0),some (27,false)⟩),(16,⟨some 29,.mv (.t 3),some (27,false)⟩),(17,⟨some 30,.iadr 11 (.t 28) (.t 29),some (27,false)⟩),(18,⟨some 31,.fadr 10 (.t 30),some (27,false)⟩),(19,⟨some 32,.load 1 false (.t 31),some (27,false)⟩),(20,⟨some 33,.bin .geq (.t 32) (.v (.int .i64 0)),some (27,false)⟩),(21,⟨some 34,.mv (.t 33),some (27,false)⟩),(22,⟨some 35,.mv (.t 0),some (34,true)⟩),(23,⟨some 36,.mv (.t 3),some (34,true)⟩),(24,⟨some 37,.iadr 11 (.t 35) (.t 36),some (34,true)⟩),(25,⟨some 38,.fadr 10 (.t 37),some (34,true)⟩),(26,⟨some 39,.load 1 false (.t 38),some (34,true)⟩),(27,⟨some 40,.mv (.t 0),some (34,true)⟩),(28,⟨some 41,.mv (.t 3),some (34,true)⟩),(29,⟨some 42,.iadr 11 (.t 40) (.t 41),some (34,true)⟩),(30,⟨some 43,.fadr 9 (.t 42),some (34,true)⟩),(31,⟨some 44,.load 1 false (.t 43),some (34,true)⟩),(32,⟨some 45,.bin .lss (.t 39) (.t 44),some (34,true)⟩),(33,⟨some 46,.pick (.t 34) (.t 45) (.v (.bool false)),some (27,false)⟩),(34,⟨some 47,.pick (.t 27) (.v (.bool true)) (.t 46),none⟩)]]
def r7 : List AO := [⟨some 2,.asg (.v (.bool false)),none⟩]
def r8 : List Ph := [.bag false [] [52,60] [(0,⟨some 48,.mv (.t 0),none⟩),(1,⟨some 49,.mv (.t 3),none⟩),(2,⟨some 50,.iadr 11 (.t 48) (.t 49),none⟩),(3,⟨some 51,.fadr 0 (.t 50),none⟩),(4,⟨some 52,.load 9 true (.t 51),none⟩),(5,⟨some 53,.call .deep (.v (.clo F.h09_Formed [] [])) [.t 52],none⟩),(6,⟨some 54,.un .not (.t 53),none⟩),(7,⟨some 55,.mv (.t 54),none⟩),(8,⟨some 56,.mv (.t 0),some (55,false)⟩),(9,⟨some 57,.mv (.t 3),some (55,false)⟩),(10,⟨some 58,.iadr 11 (.t 56) (.t 57),some (55,false)⟩),(11,⟨some 59,.fadr 0 (.t 58),some (55,false)⟩),(12,⟨some 60,.load 9 true (.t 59),some (55,false)⟩),(13,⟨some 61,.call .deep (.v (.clo F.h09_Never [] [])) [.t 60],some (55,false)⟩),(14,⟨some 62,.mv (.t 0),some (55,false)⟩),(15,⟨some 63,.mv (.t 3),some (55,false)⟩),(16,⟨some 64,.iadr 11 (.t 62) (.t 63),some (55,false)⟩),(17,⟨some 65,.fadr 10 (.t 64),some (55,false)⟩),(18,⟨some 66,.load 1 false (.t 65),some (55,false)⟩),(19,⟨some 67,.bin .eql (.t 66) (.v (.int .i64 0)),some (55,false)⟩),(20,⟨some 68,.binB true (.t 61) (.t 67),some (55,false)⟩),(21,⟨some 69,.pick (.t 55) (.v (.bool true)) (.t 68),none⟩)]]
def r9 : List AO := [⟨some 2,.asg (.v (.bool false)),none⟩]
def r5 : List AO := [⟨some 11,.mv (.t 3),none⟩,⟨some 12,.bin .add (.t 11) (.v (.int .i64 1)),none⟩,⟨some 3,.asg (.t 12),none⟩]
def l1 : AC := .seq (.seq (.reg r4 [0,3,10]) (.cond (.t 10) (.skip) (.exit 0))) (.seq (.block 1 (.seq (.seq (.dreg r6 [0,3,47]) (.cond (.t 47) (.seq (.reg r7 [2]) (.ret)) (.skip))) (.seq (.dreg r8 [0,3,69]) (.cond (.t 69) (.seq (.reg r9 [2]) (.ret)) (.skip))))) (.reg r5 [0,3]))
def r10 : List AO := [⟨some 2,.asg (.v (.bool true)),none⟩]
def body : AC := .seq (.reg r0 [0]) (.seq (.seq (.reg r1 [0,6]) (.cond (.t 6) (.seq (.reg r2 [2]) (.ret)) (.skip))) (.seq (.seq (.reg r3 [0,3]) (.block 0 (.loop [0,3] l1))) (.seq (.reg r10 [2]) (.ret))))
def fn : AFun := ⟨[.val],70,[.tmp 2],[],body⟩
end h09_arrays
namespace h09_objects
def r0 : List AO := [⟨some 2,.asg (.v (.bool false)),none⟩]
def r1 : List AO := [⟨some 3,.asg (.v (.int .i64 0)),none⟩]
def r2 : List AO := [⟨some 4,.mv (.t 3),none⟩,⟨some 5,.mv (.t 0),none⟩,⟨some 6,.len false (.t 5),none⟩,⟨some 7,.bin .lss (.t 4) (.t 6),none⟩]
def r4 : List AO := [⟨some 10,.mv (.t 0),none⟩,⟨some 11,.mv (.t 3),none⟩,⟨some 12,.iadr 12 (.t 10) (.t 11),none⟩,⟨some 13,.load 12 true (.t 12),none⟩,⟨some 14,.call .deep (.v (.clo F.h09_object [] [])) [.t 13],none⟩,⟨some 15,.un .not (.t 14),none⟩]
def r5 : List AO := [⟨some 2,.asg (.v (.bool false)),none⟩]
def r3 : List AO := [⟨some 8,.mv (.t 3),none⟩,⟨some 9,.bin .add (.t 8) (.v (.int .i64 1)),none⟩,⟨some 3,.asg (.t 9),none⟩]
def l1 : AC := .seq (.seq (.reg r2 [0,3,7]) (.cond (.t 7) (.skip) (.exit 0))) (.seq (.block 1 (.seq (.reg r4 [0,3,15]) (.cond (.t 15) (.seq (.reg r5 [2]) (.ret)) (.skip)))) (.reg r3 [0,3]))
def r6 : List AO := [⟨some 2,.asg (.v (.bool true)),none⟩]
def body : AC := .seq (.reg r0 [0]) (.seq (.seq (.reg r1 [0,3]) (.block 0 (.loop [0,3] l1))) (.seq (.reg r6 [2]) (.ret)))
def fn : AFun := ⟨[.val],16,[.tmp 2],[],body⟩
end h09_objects
namespace hk_SameStrings
def r0 : List AO := [⟨some 4,.asg (.v (.bool false)),none⟩]
def r1 : List AO := [⟨some 6,.mv (.t 0),none⟩,⟨some 7,.len false (.t 6),none⟩,⟨some 8,.mv (.t 1),none⟩,⟨some 9,.len false (.t 8),none⟩,⟨some 10,.bin .neq (.t 7) (.t 9),none⟩]
def r2 : List AO := [⟨some 4,.asg (.v (.bool false)),none⟩]
def r3 : List AO := [⟨some 5,.asg (.v (.int .i64 0)),none⟩]
def r4 : List AO := [⟨some 11,.mv (.t 5),none⟩,⟨some 12,.mv (.t 0),none⟩,⟨some 13,.len false (.t 12),none⟩,⟨some 14,.bin .lss (.t 11) (.t 13),none⟩]
def r6 : List Ph := [.bag false [] [0,1] [(0,⟨some 17,.mv (.t 0),none⟩),(1,⟨some 18,.mv (.t 5),none⟩),(2,⟨some 19,.iadr 1 (.t 17) (.t 18),none⟩),(3,⟨some 20,.load 1 false (.t 19),none⟩),(4,⟨some 21,.mv (.t 1),none⟩),(5,⟨some 22,.mv (.t 5),none⟩),(6,⟨some 23,.iadr 1 (.t 21) (.t 22),none⟩),(7,⟨some 24,.load 1 false (.t 23),none⟩),(8,⟨some 25,.bin .neq (.t 20) (.t 24),none⟩)]]
def r7 : List AO := [⟨some 4,.asg (.v (.bool false)),none⟩]
def r5 : List AO := [⟨some 15,.mv (.t 5),none⟩,⟨some 16,.bin .add (.t 15) (.v (.int .i64 1)),none⟩,⟨some 5,.asg (.t 16),none⟩]
def l1 : AC := .seq (.seq (.reg r4 [0,1,5,14]) (.cond (.t 14) (.skip) (.exit 0))) (.seq (.block 1 (.seq (.dreg r6 [0,1,5,25]) (.cond (.t 25) (.seq (.reg r7 [4]) (.ret)) (.skip)))) (.reg r5 [0,1,5]))
def r8 : List AO := [⟨some 4,.asg (.v (.bool true)),none⟩]
def body : AC := .seq (.reg r0 [0,1]) (.seq (.seq (.reg r1 [0,1,10]) (.cond (.t 10) (.seq (.reg r2 [4]) (.ret)) (.skip))) (.seq (.seq (.reg r3 [0,1,5]) (.block 0 (.loop [0,1,5] l1))) (.seq (.reg r8 [4]) (.ret))))
def fn : AFun := ⟨[.val,.val],26,[.tmp 4],[],body⟩
end hk_SameStrings
namespace h09_bound
def r0 : List AO := [⟨some 2,.asg (.v (.bool false)),none⟩]
def r1 : List AO := [⟨some 3,.mv (.t 0),none⟩,⟨some 4,.bin .eql (.t 3) (.v (.str [])),none⟩,⟨some 5,.mv (.t 4),none⟩,⟨some 6,.mv (.t 0),some (5,false)⟩,⟨some 7,.call .deep (.v (.clo F.h03_Number [] [])) [.t 6],some (5,false)⟩,⟨some 8,.pick (.t 5) (.v (.bool true)) (.t 7),none⟩,⟨some 2,.asg (.t 8),none⟩]
def body : AC := .seq (.reg r0 [0]) (.seq (.reg r1 [2]) (.ret))
def fn : AFun := ⟨[.val],9,[.tmp 2],[],body⟩
end h09_bound
namespace h09_Never
def r0 : List AO := [⟨some 1,.box (.t 0),none⟩,⟨some 2,.asg (.v (.bool false)),none⟩]
def r1 : List AO := [⟨some 3,.fadr 0 (.t 1),none⟩,⟨some 4,.load 1 false (.t 3),none⟩,⟨some 5,.un .not (.t 4),none⟩,⟨some 6,.mv (.t 5),none⟩,⟨some 7,.take 9 true (.t 1),some (6,true)⟩,⟨some 8,.call .deep (.v (.clo F.h09_Bare [] [])) [.t 7],some (6,true)⟩,⟨some 9,.pick (.t 6) (.t 8) (.v (.bool false)),none⟩,⟨some 2,.asg (.t 9),none⟩]
def body : AC := .seq (.reg r0 [1]) (.seq (.reg r1 [2]) (.ret))
def fn : AFun := ⟨[.val],10,[.tmp 2],[],body⟩
end h09_Never
namespace h09_object
def r0 : List AO := [⟨some 1,.box (.t 0),none⟩,⟨some 2,.asg (.v (.bool false)),none⟩]
def r1 : List AO := [⟨some 4,.fadr 0 (.t 1),none⟩,⟨some 5,.load 1 false (.t 4),none⟩,⟨some 6,.len false (.t 5),none⟩,⟨some 7,.fadr 1 (.t 1),none⟩,⟨some 8,.load 1 false (.t 7),none⟩,⟨some 9,.len false (.t 8),none⟩,⟨some 10,.bin .neq (.t 6) (.t 9),none⟩,⟨some 11,.mv (.t 10),none⟩,⟨some 12,.fadr 0 (.t 1),some (11,false)⟩,⟨some 13,.load 1 false (.t 12),some (11,false)⟩,⟨some 14,.len false (.t 13),some (11,false)⟩,⟨some 15,.fadr 2 (.t 1),some (11,false)⟩,⟨some 16,.load 1 false (.t 15),some (11,false)⟩,⟨some 17,.len false (.t 16),some (11,false)⟩,⟨some 18,.bin .neq (.t 14) (.t 17),some (11,false)⟩,⟨some 19,.pick (.t 11) (.v (.bool true)) (.t 18),none⟩,⟨some 20,.mv (.t 19),none⟩,⟨some 21,.fadr 0 (.t 1),some (20,false)⟩,⟨some 22,.load 1 false (.t 21),some (20,false)⟩,⟨some 23,.call .deep (.v (.clo F.h03_Rise [] [])) [.t 22],some (20,false)⟩,⟨some 24,.un .not (.t 23),some (20,false)⟩,⟨some 25,.pick (.t 20) (.v (.bool true)) (.t 24),none⟩,⟨some 26,.mv (.t 25),none⟩,⟨some 27,.fadr 3 (.t 1),some (26,false)⟩,⟨some 28,.load 9 true (.t 27),some (26,false)⟩,⟨some 29,.call .deep (.v (.clo F.h09_Formed [] [])) [.t 28],some (26,false)⟩,⟨some 30,.un .not (.t 29),some (26,false)⟩,⟨some 31,.pick (.t 26) (.v (.bool true)) (.t 30),none⟩]
def r2 : List AO := [⟨some 2,.asg (.v (.bool false)),none⟩]
def r3 : List AO := [⟨some 3,.asg (.v (.int .i64 0)),none⟩]
def r4 : List AO := [⟨some 32,.mv (.t 3),none⟩,⟨some 33,.fadr 1 (.t 1),none⟩,⟨some 34,.load 1 false (.t 33),none⟩,⟨some 35,.len false (.t 34),none⟩,⟨some 36,.bin .lss (.t 32) (.t 35),none⟩]
def r6 : List AO := [⟨some 39,.fadr 1 (.t 1),none⟩,⟨some 40,.load 1 false (.t 39),none⟩,⟨some 41,.mv (.t 3),none⟩,⟨some 42,.iadr 9 (.t 40) (.t 41),none⟩,⟨some 43,.load 9 true (.t 42),none⟩,⟨some 44,.call .deep (.v (.clo F.h09_Formed [] [])) [.t 43],none⟩,⟨some 45,.un .not (.t 44),none⟩,⟨some 46,.mv (.t 45),none⟩,⟨some 47,.fadr 2 (.t 1),some (46,false)⟩,⟨some 48,.load 1 false (.t 47),some (46,false)⟩,⟨some 49,.mv (.t 3),some (46,false)⟩,⟨some 50,.iadr 1 (.t 48) (.t 49),some (46,false)⟩,⟨some 51,.load 1 false (.t 50),some (46,false)⟩,⟨some 52,.mv (.t 51),some (46,false)⟩,⟨some 53,.fadr 1 (.t 1),some (52,true)⟩,⟨some 54,.load 1 false (.t 53),some (52,true)⟩,⟨some 55,.mv (.t 3),some (52,true)⟩,⟨some 56,.iadr 9 (.t 54) (.t 55),some (52,true)⟩,⟨some 57,.load 9 true (.t 56),some (52,true)⟩,⟨some 58,.call .deep (.v (.clo F.h09_Never [] [])) [.t 57],some (52,true)⟩,⟨some 59,.pick (.t 52) (.t 58) (.v (.bool false)),some (46,false)⟩,⟨some 60,.pick (.t 46) (.v (.bool true)) (.t 59),none⟩]
def r7 : List AO := [⟨some 2,.asg (.v (.bool false)),none⟩]
def r5 : List AO := [⟨some 37,.mv (.t 3),none⟩,⟨some 38,.bin .add (.t 37) (.v (.int .i64 1)),none⟩,⟨some 3,.asg (.t 38),none⟩]
def l1 : AC := .seq (.seq (.reg r4 [1,3,36]) (.cond (.t 36) (.skip) (.exit 0))) (.seq (.block 1 (.seq (.reg r6 [1,3,60]) (.cond (.t 60) (.seq (.reg r7 [2]) (.ret)) (.skip)))) (.reg r5 [1,3]))
def r8 : List AO := [⟨some 2,.asg (.v (.bool true)),none⟩]
def body : AC := .seq (.reg r0 [1]) (.seq (.seq (.reg r1 [1,31]) (.cond (.t 31) (.seq (.reg r2 [2]) (.ret)) (.skip))) (.seq (.seq (.reg r3 [1,3]) (.block 0 (.loop [1,3] l1))) (.seq (.reg r8 [2]) (.ret))))
def fn : AFun := ⟨[.val],61,[.tmp 2],[],body⟩
end h09_object
namespace shape_worth
def r0 : List AO := [⟨some 4,.asg (.v (.int .i64 0)),none⟩]
def r1 : List AO := [⟨some 8,.mv (.t 0),none⟩,⟨some 9,.mv (.t 1),none⟩,⟨some 10,.call .deep (.v (.clo F.tens_Cmp [] [])) [.t 8,.t 9],none⟩,⟨some 7,.mv (.t 10),none⟩,⟨some 11,.ext (.t 7) 0,none⟩,⟨some 12,.ext (.t 7) 1,none⟩,⟨some 5,.asg (.t 11),none⟩,⟨some 6,.asg (.t 12),none⟩]
def r2 : List AO := [⟨some 13,.mv (.t 5),none⟩,⟨some 4,.asg (.t 13),none⟩]
def body : AC := .seq (.reg r0 [0,1]) (.seq (.reg r1 [5]) (.seq (.reg r2 [4]) (.ret)))
def fn : AFun := ⟨[.val,.val],14,[.tmp 4],[],body⟩
end shape_worth
namespace shape_Kinds
def r0 : List AO := [⟨some 1,.box (.t 0),none⟩,⟨some 2,.asg (.v (.int .u8 0)),none⟩]
def r1 : List AO := [⟨some 6,.fadr 0 (.t 1),none⟩,⟨some 7,.load 1 false (.t 6),none⟩]
def r2 : List AO := [⟨some 2,.asg (.v (.int .u8 127)),none⟩]
def r3 : List AO := [⟨some 3,.asg (.v (.int .u8 0)),none⟩]
def r4 : List AO := [⟨some 8,.fadr 1 (.t 1),none⟩,⟨some 9,.load 1 false (.t 8),none⟩,⟨some 10,.fadr 2 (.t 1),none⟩,⟨some 11,.load 1 false (.t 10),none⟩,⟨some 12,.fadr 3 (.t 1),none⟩,⟨some 13,.load 1 false (.t 12),none⟩,⟨some 14,.fadr 4 (.t 1),none⟩,⟨some 15,.load 1 false (.t 14),none⟩,⟨some 16,.len false (.t 15),none⟩,⟨some 17,.bin .gtr (.t 16) (.v (.int .i64 0)),none⟩,⟨some 18,.fadr 5 (.t 1),none⟩,⟨some 19,.load 1 false (.t 18),none⟩,⟨some 20,.mv (.t 19),none⟩,⟨some 21,.fadr 6 (.t 1),some (20,false)⟩,⟨some 22,.load 1 false (.t 21),some (20,false)⟩,⟨some 23,.len false (.t 22),some (20,false)⟩,⟨some 24,.bin .gtr (.t 23) (.v (.int .i64 0)),some (20,false)⟩,⟨some 25,.pick (.t 20) (.v (.bool true)) (.t 24),none⟩,⟨some 26,.fadr 7 (.t 1),none⟩,⟨some 27,.load 1 false (.t 26),none⟩,⟨some 28,.len false (.t 27),none⟩,⟨some 29,.bin .gtr (.t 28) (.v (.int .i64 0)),none⟩,⟨some 30,.fadr 8 (.t 1),none⟩,⟨some 31,.take 1 false (.t 30),none⟩,⟨some 32,.len false (.t 31),none⟩,⟨some 33,.bin .gtr (.t 32) (.v (.int .i64 0)),none⟩,⟨some 34,.build [.av (.bool false),.av (.bool false),.av (.bool false),.av (.bool false),.av (.bool false),.av (.bool false),.av (.bool false)] [(0,1,.t 9),(1,1,.t 11),(2,1,.t 13),(3,1,.t 17),(4,1,.t 25),(5,1,.t 29),(6,1,.t 33)],none⟩,⟨some 35,.mv (.v (.int .i64 0)),none⟩]
def r5 : List AO := [⟨some 36,.bin .lss (.t 35) (.v (.int .i64 7)),none⟩]
def r6 : List AO := [⟨some 37,.mv (.t 35),none⟩,⟨some 38,.idxA 7 1 false (.t 34) (.t 35),none⟩,⟨some 4,.asg (.t 37),none⟩,⟨some 5,.asg (.t 38),none⟩]
def r7 : List AO := [⟨some 39,.mv (.t 5),none⟩]
def r8 : List AO := [⟨some 40,.mv (.t 3),none⟩,⟨some 41,.mv (.t 4),none⟩,⟨some 42,.bin .shl (.v (.int .u8 1)) (.t 41),none⟩,⟨some 43,.bin .or (.t 40) (.t 42),none⟩,⟨some 3,.asg (.t 43),none⟩]
def r9 : List AO := [⟨some 44,.bin .add (.t 35) (.v (.int .i64 1)),none⟩,⟨some 35,.mv (.t 44),none⟩]
def l1 : AC := .seq (.reg r5 [3,34,35,36]) (.seq (.cond (.t 36) (.skip) (.exit 0)) (.seq (.block 1 (.seq (.reg r6 [3,4,5,34,35]) (.seq (.reg r7 [3,4,34,35,39]) (.cond (.t 39) (.reg r8 [3,34,35]) (.skip))))) (.reg r9 [3,34,35])))
def r10 : List AO := [⟨some 45,.mv (.t 3),none⟩,⟨some 2,.asg (.t 45),none⟩]
def body : AC := .seq (.reg r0 [1]) (.seq (.seq (.reg r1 [1,7]) (.cond (.t 7) (.seq (.reg r2 [2]) (.ret)) (.skip))) (.seq (.reg r3 [1,3]) (.seq (.seq (.reg r4 [3,34,35]) (.block 0 (.loop [3,34,35] l1))) (.seq (.reg r10 [2]) (.ret)))))
def fn : AFun := ⟨[.val],46,[.tmp 2],[],body⟩
end shape_Kinds
namespace shape_Formed
def r0 : List AO := [⟨some 1,.box (.t 0),none⟩,⟨some 2,.asg (.v (.bool false)),none⟩]
def r1 : List AO := [⟨some 6,.take 9 true (.t 1),none⟩,⟨some 3,.alloc [.av (.bool false),.av (.bool false),.av (.bool false),.av (.bool false),.own 2 [],.av (.bool false),.own 1 [],.own 11 [],.own 12 []],none⟩,⟨none,.store 9 (.t 3) (.t 6),none⟩]
def r2 : List AO := [⟨some 7,.load 9 true (.t 3),none⟩,⟨some 8,.mkf F.shape_piece_every [.t 7] [],none⟩,⟨some 9,.load 9 true (.t 3),none⟩,⟨some 10,.mkf F.shape_piece_nums [.t 9] [],none⟩,⟨some 11,.load 9 true (.t 3),none⟩,⟨some 12,.mkf F.shape_piece_texts [.t 11] [],none⟩,⟨some 13,.load 9 true (.t 3),none⟩,⟨some 14,.mkf F.shape_piece_arrays [.t 13] [],none⟩,⟨some 15,.take 9 true (.t 3),none⟩,⟨some 16,.mkf F.shape_piece_objects [.t 15] [],none⟩,⟨some 17,.build [.av .nilf,.av .nilf,.av .nilf,.av .nilf,.av .nilf] [(0,1,.t 8),(1,1,.t 10),(2,1,.t 12),(3,1,.t 14),(4,1,.t 16)],none⟩,⟨some 18,.mv (.v (.int .i64 0)),none⟩]
def r3 : List AO := [⟨some 19,.bin .lss (.t 18) (.v (.int .i64 5)),none⟩]
def r4 : List AO := [⟨some 20,.idxA 5 1 false (.t 17) (.t 18),none⟩,⟨some 5,.asg (.t 20),none⟩]
def r5 : List AO := [⟨some 21,.mv (.t 5),none⟩,⟨some 22,.call .deep (.t 21) [],none⟩,⟨some 23,.un .not (.t 22),none⟩]
def r6 : List AO := [⟨some 2,.asg (.v (.bool false)),none⟩]
def r7 : List AO := [⟨some 24,.bin .add (.t 18) (.v (.int .i64 1)),none⟩,⟨some 18,.mv (.t 24),none⟩]
def l1 : AC := .seq (.reg r3 [17,18,19]) (.seq (.cond (.t 19) (.skip) (.exit 0)) (.seq (.block 1 (.seq (.reg r4 [5,17,18]) (.seq (.reg r5 [17,18,23]) (.cond (.t 23) (.seq (.reg r6 [2]) (.ret)) (.skip))))) (.reg r7 [17,18])))
def r8 : List AO := [⟨some 2,.asg (.v (.bool true)),none⟩]
def body : AC := .seq (.reg r0 [1]) (.seq (.reg r1 [3]) (.seq (.seq (.reg r2 [17,18]) (.block 0 (.loop [17,18] l1))) (.seq (.reg r8 [2]) (.ret))))
def fn : AFun := ⟨[.val],25,[.tmp 2],[],body⟩
end shape_Formed
namespace hk_Fit
def r0 : List AO := [⟨some 2,.asg (.v (.bool false)),none⟩]
def r1 : List AO := [⟨some 3,.asg (.v (.int .i64 0)),none⟩]
def r2 : List AO := [⟨some 4,.asg (.v (.int .i64 0)),none⟩]
def r3 : List AO := [⟨some 5,.mv (.t 4),none⟩,⟨some 6,.mv (.t 0),none⟩,⟨some 7,.len false (.t 6),none⟩,⟨some 8,.bin .lss (.t 5) (.t 7),none⟩]
def r5 : List AO := [⟨some 11,.mv (.t 3),none⟩,⟨some 12,.mv (.t 0),none⟩,⟨some 13,.mv (.t 4),none⟩,⟨some 14,.iadr 5 (.t 12) (.t 13),none⟩,⟨some 15,.load 5 true (.t 14),none⟩,⟨some 16,.mv (.t 3),none⟩,⟨some 17,.bin .sub (.v (.int .i64 20000)) (.t 16),none⟩,⟨some 18,.call .deep (.v (.clo F.hk_PartsOf [] [])) [.t 15,.t 17],none⟩,⟨some 19,.bin .add (.t 11) (.t 18),none⟩,⟨some 3,.asg (.t 19),none⟩]
def r6 : List AO := [⟨some 20,.mv (.t 3),none⟩,⟨some 21,.bin .gtr (.t 20) (.v (.int .i64 20000)),none⟩]
def r7 : List AO := [⟨some 2,.asg (.v (.bool false)),none⟩]
def r4 : List AO := [⟨some 9,.mv (.t 4),none⟩,⟨some 10,.bin .add (.t 9) (.v (.int .i64 1)),none⟩,⟨some 4,.asg (.t 10),none⟩]
def l1 : AC := .seq (.seq (.reg r3 [0,3,4,8]) (.cond (.t 8) (.skip) (.exit 0))) (.seq (.block 1 (.seq (.reg r5 [0,3,4]) (.seq (.reg r6 [0,3,4,21]) (.cond (.t 21) (.seq (.reg r7 [2]) (.ret)) (.skip))))) (.reg r4 [0,3,4]))
def r8 : List AO := [⟨some 2,.asg (.v (.bool true)),none⟩]
def body : AC := .seq (.reg r0 [0]) (.seq (.reg r1 [0,3]) (.seq (.seq (.reg r2 [0,3,4]) (.block 0 (.loop [0,3,4] l1))) (.seq (.reg r8 [2]) (.ret))))
def fn : AFun := ⟨[.val],22,[.tmp 2],[],body⟩
end hk_Fit
namespace shape_piece_every
def r0 : List AO := [⟨some 1,.box (.t 0),none⟩,⟨some 2,.asg (.v (.bool false)),none⟩]
def r1 : List AO := [⟨some 3,.fadr 0 (.t 1),none⟩,⟨some 4,.load 1 false (.t 3),none⟩,⟨some 5,.un .not (.t 4),none⟩,⟨some 6,.mv (.t 5),none⟩,⟨some 7,.take 9 true (.t 1),some (6,false)⟩,⟨some 8,.call .deep (.v (.clo F.shape_piece_bare [] [])) [.t 7],some (6,false)⟩,⟨some 9,.pick (.t 6) (.v (.bool true)) (.t 8),none⟩,⟨some 2,.asg (.t 9),none⟩]
def body : AC := .seq (.reg r0 [1]) (.seq (.reg r1 [2]) (.ret))
def fn : AFun := ⟨[.val],10,[.tmp 2],[],body⟩
end shape_piece_every
namespace shape_piece_nums
def r0 : List AO := [⟨some 1,.box (.t 0),none⟩,⟨some 2,.asg (.v (.bool false)),none⟩]
def r1 : List AO := [⟨some 7,.fadr 4 (.t 1),none⟩,⟨some 8,.load 1 false (.t 7),none⟩,⟨some 9,.len false (.t 8),none⟩,⟨some 10,.mv (.v (.int .i64 0)),none⟩]
def r2 : List AO := [⟨some 11,.bin .lss (.t 10) (.t 9),none⟩]
def r3 : List AO := [⟨some 12,.iadr 2 (.t 8) (.t 10),none⟩,⟨some 13,.load 2 true (.t 12),none⟩,⟨some 4,.alloc [.av (.str []),.av (.str [])],none⟩,⟨none,.store 2 (.t 4) (.t 13),none⟩]
def r4 : List Ph := [.bag false [] [] [(0,⟨some 14,.fadr 0 (.t 4),none⟩),(1,⟨some 15,.load 1 false (.t 14),none⟩),(2,⟨some 16,.bin .eql (.t 15) (.v (.str [])),none⟩),(3,⟨some 17,.mv (.t 16),none⟩),(4,⟨some 18,.fadr 0 (.t 4),some (17,false)⟩),(5,⟨some 19,.load 1 false (.t 18),some (17,false)⟩),(6,⟨some 20,.call .deep (.v (.clo F.tens_Formed [] [])) [.t 19],some (17,false)⟩),(7,⟨some 21,.pick (.t 17) (.v (.bool true)) (.t 20),none⟩),(8,⟨some 22,.fadr 1 (.t 4),none⟩),(9,⟨some 23,.load 1 false (.t 22),none⟩),(10,⟨some 24,.bin .eql (.t 23) (.v (.str [])),none⟩),(11,⟨some 25,.mv (.t 24),none⟩),(12,⟨some 26,.fadr 1 (.t 4),some (25,false)⟩),(13,⟨some 27,.load 1 false (.t 26),some (25,false)⟩),(14,⟨some 28,.call .deep (.v (.clo F.tens_Formed [] [])) [.t 27],some (25,false)⟩),(15,⟨some 29,.pick (.t 25) (.v (.bool true)) (.t 28),none⟩),(16,⟨some 5,.asg (.t 21),none⟩),(17,⟨some 6,.asg (.t 29),none⟩)]]
def r5 : List AO := [⟨some 30,.mv (.t 5),none⟩,⟨some 31,.un .not (.t 30),none⟩,⟨some 32,.mv (.t 31),none⟩,⟨some 33,.mv (.t 6),some (32,false)⟩,⟨some 34,.un .not (.t 33),some (32,false)⟩,⟨some 35,.pick (.t 32) (.v (.bool true)) (.t 34),none⟩,⟨some 36,.mv (.t 35),none⟩,⟨some 37,.fadr 0 (.t 4),some (36,false)⟩,⟨some 38,.load 1 false (.t 37),some (36,false)⟩,⟨some 39,.bin .neq (.t 38) (.v (.str [])),some (36,false)⟩,⟨some 40,.mv (.t 39),some (36,false)⟩,⟨some 41,.fadr 1 (.t 4),some (40,true)⟩,⟨some 42,.load 1 false (.t 41),some (40,true)⟩,⟨some 43,.bin .neq (.t 42) (.v (.str [])),some (40,true)⟩,⟨some 44,.pick (.t 40) (.t 43) (.v (.bool false)),some (36,false)⟩,⟨some 45,.mv (.t 44),some (36,false)⟩,⟨some 46,.fadr 0 (.t 4),some (45,true)⟩,⟨some 47,.load 1 false (.t 46),some (45,true)⟩,⟨some 48,.fadr 1 (.t 4),some (45,true)⟩,⟨some 49,.load 1 false (.t 48),some (45,true)⟩,⟨some 50,.call .deep (.v (.clo F.shape_worth [] [])) [.t 47,.t 49],some (45,true)⟩,⟨some 51,.bin .gtr (.t 50) (.v (.int .i64 0)),some (45,true)⟩,⟨some 52,.pick (.t 45) (.t 51) (.v (.bool false)),some (36,false)⟩,⟨some 53,.pick (.t 36) (.v (.bool true)) (.t 52),none⟩]
def r6 : List AO := [⟨some 2,.asg (.v (.bool false)),none⟩]
def r7 : List AO := [⟨some 54,.bin .add (.t 10) (.v (.int .i64 1)),none⟩,⟨some 10,.mv (.t 54),none⟩]
def l1 : AC := .seq (.reg r2 [1,8,9,10,11]) (.seq (.cond (.t 11) (.skip) (.exit 0)) (.seq (.block 1 (.seq (.reg r3 [1,4,8,9,10]) (.seq (.dreg r4 [1,4,5,6,8,9,10]) (.seq (.reg r5 [1,8,9,10,53]) (.cond (.t 53) (.seq (.reg r6 [2]) (.ret)) (.skip)))))) (.reg r7 [1,8,9,10])))
def r8 : List AO := [⟨some 55,.fadr 4 (.t 1),none⟩,⟨some 56,.take 1 false (.t 55),none⟩,⟨some 57,.len false (.t 56),none⟩,⟨some 58,.bin .leq (.t 57) (.v (.int .i64 1)),none⟩,⟨some 2,.asg (.t 58),none⟩]
def body : AC := .seq (.reg r0 [1]) (.seq (.seq (.reg r1 [1,8,9,10]) (.block 0 (.loop [1,8,9,10] l1))) (.seq (.reg r8 [2]) (.ret)))
def fn : AFun := ⟨[.val],59,[.tmp 2],[],body⟩
end shape_piece_nums
namespace shape_piece_texts
def r0 : List AO := [⟨some 1,.box (.t 0),none⟩,⟨some 2,.asg (.v (.bool false)),none⟩]
def r1 : List AO := [⟨some 3,.fadr 6 (.t 1),none⟩,⟨some 4,.load 1 false (.t 3),none⟩,⟨some 5,.call .deep (.v (.clo F.shape_rise [] [])) [.t 4],none⟩,⟨some 6,.mv (.t 5),none⟩,⟨some 7,.fadr 5 (.t 1),some (6,true)⟩,⟨some 8,.load 1 false (.t 7),some (6,true)⟩,⟨some 9,.un .not (.t 8),some (6,true)⟩,⟨some 10,.mv (.t 9),some (6,true)⟩,⟨some 11,.fadr 6 (.t 1),some (10,false)⟩,⟨some 12,.take 1 false (.t 11),some (10,false)⟩,⟨some 13,.len false (.t 12),some (10,false)⟩,⟨some 14,.bin .eql (.t 13) (.v (.int .i64 0)),some (10,false)⟩,⟨some 15,.pick (.t 10) (.v (.bool true)) (.t 14),some (6,true)⟩,⟨some 16,.pick (.t 6) (.t 15) (.v (.bool false)),none⟩,⟨some 2,.asg (.t 16),none⟩]
def body : AC := .seq (.reg r0 [1]) (.seq (.reg r1 [2]) (.ret))
def fn : AFun := ⟨[.val],17,[.tmp 2],[],body⟩
end shape_piece_texts
namespace shape_piece_arrays
def r0 : List AO := [⟨some 1,.box (.t 0),none⟩,⟨some 2,.asg (.v (.bool false)),none⟩]
def r1 : List AO := [⟨some 5,.fadr 7 (.t 1),none⟩,⟨some 6,.load 1 false (.t 5),none⟩,⟨some 7,.len false (.t 6),none⟩,⟨some 8,.mv (.v (.int .i64 0)),none⟩]
def r2 : List AO := [⟨some 9,.bin .lss (.t 8) (.t 7),none⟩]
def r3 : List AO := [⟨some 10,.iadr 11 (.t 6) (.t 8),none⟩,⟨some 11,.load 11 true (.t 10),none⟩,⟨some 4,.alloc [.av (.bool false),.av (.bool false),.av (.bool false),.av (.bool false),.own 2 [],.av (.bool false),.own 1 [],.own 11 [],.own 12 [],.av (.int .i64 0),.av (.int .i64 0)],none⟩,⟨none,.store 11 (.t 4) (.t 11),none⟩]
def r4 : List Ph := [.bag false [] [34,40] [(0,⟨some 12,.fadr 9 (.t 4),none⟩),(1,⟨some 13,.load 1 false (.t 12),none⟩),(2,⟨some 14,.bin .lss (.t 13) (.v (.int .i64 0)),none⟩),(3,⟨some 15,.mv (.t 14),none⟩),(4,⟨some 16,.fadr 10 (.t 4),some (15,false)⟩),(5,⟨some 17,.load 1 false (.t 16),some (15,false)⟩),(6,⟨some 18,.bin .lss (.t 17) (.v (.int .i64 (-1))),some (15,false)⟩),(7,⟨some 19,.pick (.t 15) (.v (.bool true)) (.t 18),none⟩),(8,⟨some 20,.mv (.t 19),none⟩),(9,⟨some 21,.fadr 10 (.t 4),some (20,false)⟩),(10,⟨some 22,.load 1 false (.t 21),some (20,false)⟩),(11,⟨some 23,.bin .geq (.t 22) (.v (.int .i64 0)),some (20,false)⟩),(12,⟨some 24,.mv (.t 23),some (20,false)⟩),(13,⟨some 25,.fadr 10 (.t 4),some (24,true)⟩),(14,⟨some 26,.load 1 false (.t 25),some (24,true)⟩),(15,⟨some 27,.fadr 9 (.t 4),some (24,true)⟩),(16,⟨some 28,.load 1 false (.t 27),some (24,true)⟩),(17,⟨some 29,.bin .lss (.t 26) (.t 28),some (24,true)⟩),(18,⟨some 30,.pick (.t 24) (.t 29) (.v (.bool false)),some (20,false)⟩),(19,⟨some 31,.pick (.t 20) (.v (.bool true)) (.t 30),none⟩),(20,⟨some 32,.mv (.t 31),none⟩),(21,⟨some 33,.fadr 0 (.t 4),some (32,false)⟩),(22,⟨some 34,.load 9 true (.t 33),some (32,false)⟩),(23,⟨some 35,.call .deep (.v (.clo F.shape_Formed [] [])) [.t 34],some (32,false)⟩),(24,⟨some 36,.un .not (.t 35),some (32,false)⟩),(25,⟨some 37,.pick (.t 32) (.v (.bool true)) (.t 36),none⟩),(26,⟨some 38,.mv (.t 37),none⟩),(27,⟨some 39,.fadr 0 (.t 4),some (38,false)⟩),(28,⟨some 40,.load 9 true (.t 39),some (38,false)⟩),(29,⟨some 41,.call .deep (.v (.clo F.shape_never [] [])) [.t 40],some (38,false)⟩),(30,⟨some 42,.fadr 10 (.t 4),some (38,false)⟩),(31,⟨some 43,.load 1 false (.t 42),some (38,false)⟩),(32,⟨some 44,.bin .eql (.t 43) (.v (.int .i64 0)),some (38,false)⟩),(33,⟨some 45,.binB true (.t 41) (.t 44),some (38,false)⟩),(34,⟨some 46,.pick (.t 38) (.v (.bool true)) (.t 45),none⟩)]]
def r5 : List AO := [⟨some 2,.asg (.v (.bool false)),none⟩]
def r6 : List AO := [⟨some 47,.bin .add (.t 8) (.v (.int .i64 1)),none⟩,⟨some 8,.mv (.t 47),none⟩]
def l1 : AC := .seq (.reg r2 [1,6,7,8,9]) (.seq (.cond (.t 9) (.skip) (.exit 0)) (.seq (.block 1 (.seq (.reg r3 [1,4,6,7,8]) (.seq (.dreg r4 [1,6,7,8,46]) (.cond (.t 46) (.seq (.reg r5 [2]) (.ret)) (.skip))))) (.reg r6 [1,6,7,8])))
def r7 : List AO := [⟨some 48,.fadr 7 (.t 1),none⟩,⟨some 49,.take 1 false (.t 48),none⟩,⟨some 50,.len false (.t 49),none⟩,⟨some 51,.bin .leq (.t 50) (.v (.int .i64 1)),none⟩,⟨some 2,.asg (.t 51),none⟩]
def body : AC := .seq (.reg r0 [1]) (.seq (.seq (.reg r1 [1,6,7,8]) (.block 0 (.loop [1,6,7,8] l1))) (.seq (.reg r7 [2]) (.ret)))
def fn : AFun := ⟨[.val],52,[.tmp 2],[],body⟩
end shape_piece_arrays
namespace shape_piece_objects
def r0 : List AO := [⟨some 1,.box (.t 0),none⟩,⟨some 2,.asg (.v (.bool false)),none⟩]
def r1 : List AO := [⟨some 7,.fadr 8 (.t 1),none⟩,⟨some 8,.take 1 false (.t 7),none⟩,⟨some 9,.len false (.t 8),none⟩,⟨some 10,.mv (.v (.int .i64 0)),none⟩]
def r2 : List AO := [⟨some 11,.bin .lss (.t 10) (.t 9),none⟩]
def r3 : List AO := [⟨some 12,.iadr 12 (.t 8) (.t 10),none⟩,⟨some 13,.load 12 true (.t 12),none⟩,⟨some 4,.alloc [.own 1 [],.own 9 [],.own 1 [],.av (.bool false),.av (.bool false),.av (.bool false),.av (.bool false),.own 2 [],.av (.bool false),.own 1 [],.own 11 [],.own 12 []],none⟩,⟨none,.store 12 (.t 4) (.t 13),none⟩]
def r4 : List AO := [⟨some 14,.fadr 0 (.t 4),none⟩,⟨some 15,.load 1 false (.t 14),none⟩,⟨some 16,.len false (.t 15),none⟩,⟨some 17,.fadr 1 (.t 4),none⟩,⟨some 18,.load 1 false (.t 17),none⟩,⟨some 19,.len false (.t 18),none⟩,⟨some 20,.bin .neq (.t 16) (.t 19),none⟩,⟨some 21,.mv (.t 20),none⟩,⟨some 22,.fadr 0 (.t 4),some (21,false)⟩,⟨some 23,.load 1 false (.t 22),some (21,false)⟩,⟨some 24,.len false (.t 23),some (21,false)⟩,⟨some 25,.fadr 2 (.t 4),some (21,false)⟩,⟨some 26,.load 1 false (.t 25),some (21,false)⟩,⟨some 27,.len false (.t 26),some (21,false)⟩,⟨some 28,.bin .neq (.t 24) (.t 27),some (21,false)⟩,⟨some 29,.pick (.t 21) (.v (.bool true)) (.t 28),none⟩,⟨some 30,.mv (.t 29),none⟩,⟨some 31,.fadr 0 (.t 4),some (30,false)⟩,⟨some 32,.load 1 false (.t 31),some (30,false)⟩,⟨some 33,.call .deep (.v (.clo F.shape_rise [] [])) [.t 32],some (30,false)⟩,⟨some 34,.un .not (.t 33),some (30,false)⟩,⟨some 35,.pick (.t 30) (.v (.bool true)) (.t 34),none⟩,⟨some 36,.mv (.t 35),none⟩,⟨some 37,.fadr 3 (.t 4),some (36,false)⟩,⟨some 38,.load 9 true (.t 37),some (36,false)⟩,⟨some 39,.call .deep (.v (.clo F.shape_Formed [] [])) [.t 38],some (36,false)⟩,⟨some 40,.un .not (.t 39),some (36,false)⟩,⟨some 41,.pick (.t 36) (.v (.bool true)) (.t 40),none⟩]
def r5 : List AO := [⟨some 2,.asg (.v (.bool false)),none⟩]
def r6 : List AO := [⟨some 42,.fadr 1 (.t 4),none⟩,⟨some 43,.load 1 false (.t 42),none⟩,⟨some 44,.len false (.t 43),none⟩,⟨some 45,.mv (.v (.int .i64 0)),none⟩]
def r7 : List AO := [⟨some 46,.bin .lss (.t 45) (.t 44),none⟩]
def r8 : List AO := [⟨some 47,.mv (.t 45),none⟩,⟨some 48,.iadr 9 (.t 43) (.t 45),none⟩,⟨some 49,.load 9 true (.t 48),none⟩,⟨some 6,.alloc [.av (.bool false),.av (.bool false),.av (.bool false),.av (.bool false),.own 2 [],.av (.bool false),.own 1 [],.own 11 [],.own 12 []],none⟩,⟨some 5,.asg (.t 47),none⟩,⟨none,.store 9 (.t 6) (.t 49),none⟩]
def r9 : List AO := [⟨some 50,.load 9 true (.t 6),none⟩,⟨some 51,.call .deep (.v (.clo F.shape_Formed [] [])) [.t 50],none⟩,⟨some 52,.un .not (.t 51),none⟩,⟨some 53,.mv (.t 52),none⟩,⟨some 54,.fadr 2 (.t 4),some (53,false)⟩,⟨some 55,.load 1 false (.t 54),some (53,false)⟩,⟨some 56,.mv (.t 5),some (53,false)⟩,⟨some 57,.iadr 1 (.t 55) (.t 56),some (53,false)⟩,⟨some 58,.load 1 false (.t 57),some (53,false)⟩,⟨some 59,.mv (.t 58),some (53,false)⟩,⟨some 60,.take 9 true (.t 6),some (59,true)⟩,⟨some 61,.call .deep (.v (.clo F.shape_never [] [])) [.t 60],some (59,true)⟩,⟨some 62,.pick (.t 59) (.t 61) (.v (.bool false)),some (53,false)⟩,⟨some 63,.pick (.t 53) (.v (.bool true)) (.t 62),none⟩]
def r10 : List AO := [⟨some 2,.asg (.v (.bool false)),none⟩]
def r11 : List AO := [⟨some 64,.bin .add (.t 45) (.v (.int .i64 1)),none⟩,⟨some 45,.mv (.t 64),none⟩]
def l2 : AC := .seq (.reg r7 [4,8,9,10,43,44,45,46]) (.seq (.cond (.t 46) (.skip) (.exit 2)) (.seq (.block 3 (.seq (.reg r8 [4,5,6,8,9,10,43,44,45]) (.seq (.reg r9 [4,8,9,10,43,44,45,63]) (.cond (.t 63) (.seq (.reg r10 [2]) (.ret)) (.skip))))) (.reg r11 [4,8,9,10,43,44,45])))
def r12 : List AO := [⟨some 65,.bin .add (.t 10) (.v (.int .i64 1)),none⟩,⟨some 10,.mv (.t 65),none⟩]
def l1 : AC := .seq (.reg r2 [8,9,10,11]) (.seq (.cond (.t 11) (.skip) (.exit 0)) (.seq (.block 1 (.seq (.reg r3 [4,8,9,10]) (.seq (.seq (.reg r4 [4,8,9,10,41]) (.cond (.t 41) (.seq (.reg r5 [2]) (.ret)) (.skip))) (.seq (.reg r6 [4,8,9,10,43,44,45]) (.block 2 (.loop [4,8,9,10,43,44,45] l2)))))) (.reg r12 [8,9,10])))
def r13 : List AO := [⟨some 2,.asg (.v (.bool true)),none⟩]
def body : AC := .seq (.reg r0 [1]) (.seq (.seq (.reg r1 [8,9,10]) (.block 0 (.loop [8,9,10] l1))) (.seq (.reg r13 [2]) (.ret)))
def fn : AFun := ⟨[.val],66,[.tmp 2],[],body⟩
end shape_piece_objects
namespace hk_PartsOf
def r0 : List AO := [⟨some 2,.box (.t 0),none⟩,⟨some 4,.asg (.v (.int .i64 0)),none⟩]
def r1 : List AO := [⟨some 5,.asg (.v (.int .i64 1)),none⟩]
def r2 : List AO := [⟨some 6,.asg (.v (.int .i64 0)),none⟩]
def r3 : List AO := [⟨some 7,.mv (.t 6),none⟩,⟨some 8,.fadr 3 (.t 2),none⟩,⟨some 9,.load 1 false (.t 8),none⟩,⟨some 10,.len false (.t 9),none⟩,⟨some 11,.bin .lss (.t 7) (.t 10),none⟩,⟨some 12,.mv (.t 11),none⟩,⟨some 13,.mv (.t 5),some (12,true)⟩,⟨some 14,.mv (.t 1),some (12,true)⟩,⟨some 15,.bin .leq (.t 13) (.t 14),some (12,true)⟩,⟨some 16,.pick (.t 12) (.t 15) (.v (.bool false)),none⟩]
def r5 : List AO := [⟨some 19,.mv (.t 5),none⟩,⟨some 20,.fadr 3 (.t 2),none⟩,⟨some 21,.load 1 false (.t 20),none⟩,⟨some 22,.mv (.t 6),none⟩,⟨some 23,.iadr 5 (.t 21) (.t 22),none⟩,⟨some 24,.load 5 true (.t 23),none⟩,⟨some 25,.mv (.t 1),none⟩,⟨some 26,.mv (.t 5),none⟩,⟨some 27,.bin .sub (.t 25) (.t 26),none⟩,⟨some 28,.call .deep (.v (.clo F.hk_PartsOf [] [])) [.t 24,.t 27],none⟩,⟨some 29,.bin .add (.t 19) (.t 28),none⟩,⟨some 5,.asg (.t 29),none⟩]
def r4 : List AO := [⟨some 17,.mv (.t 6),none⟩,⟨some 18,.bin .add (.t 17) (.v (.int .i64 1)),none⟩,⟨some 6,.asg (.t 18),none⟩]
def l1 : AC := .seq (.seq (.reg r3 [1,2,5,6,16]) (.cond (.t 16) (.skip) (.exit 0))) (.seq (.block 1 (.reg r5 [1,2,5,6])) (.reg r4 [1,2,5,6]))
def r6 : List AO := [⟨some 30,.mv (.t 5),none⟩,⟨some 31,.fadr 4 (.t 2),none⟩,⟨some 32,.take 1 false (.t 31),none⟩,⟨some 33,.len false (.t 32),none⟩,⟨some 34,.bin .add (.t 30) (.t 33),none⟩,⟨some 4,.asg (.t 34),none⟩]
def body : AC := .seq (.reg r0 [1,2]) (.seq (.reg r1 [1,2,5]) (.seq (.seq (.reg r2 [1,2,5,6]) (.block 0 (.loop [1,2,5,6] l1))) (.seq (.reg r6 [4]) (.ret))))
def fn : AFun := ⟨[.val,.val],35,[.tmp 4],[],body⟩
end hk_PartsOf
namespace h09_Has
def r0 : List AO := [⟨some 4,.asg (.v (.bool false)),none⟩]
def r1 : List AO := [⟨some 5,.asg (.v (.int .i64 0)),none⟩]
def r2 : List AO := [⟨some 6,.mv (.t 5),none⟩,⟨some 7,.mv (.t 0),none⟩,⟨some 8,.len false (.t 7),none⟩,⟨some 9,.bin .lss (.t 6) (.t 8),none⟩]
def r4 : List AO := [⟨some 12,.mv (.t 0),none⟩,⟨some 13,.mv (.t 5),none⟩,⟨some 14,.iadr 1 (.t 12) (.t 13),none⟩,⟨some 15,.load 1 false (.t 14),none⟩,⟨some 16,.mv (.t 1),none⟩,⟨some 17,.bin .eql (.t 15) (.t 16),none⟩]
def r5 : List AO := [⟨some 4,.asg (.v (.bool true)),none⟩]
def r3 : List AO := [⟨some 10,.mv (.t 5),none⟩,⟨some 11,.bin .add (.t 10) (.v (.int .i64 1)),none⟩,⟨some 5,.asg (.t 11),none⟩]
def l1 : AC := .seq (.seq (.reg r2 [0,1,5,9]) (.cond (.t 9) (.skip) (.exit 0))) (.seq (.block 1 (.seq (.reg r4 [0,1,5,17]) (.cond (.t 17) (.seq (.reg r5 [4]) (.ret)) (.skip)))) (.reg r3 [0,1,5]))
def r6 : List AO := [⟨some 4,.asg (.v (.bool false)),none⟩]
def body : AC := .seq (.reg r0 [0,1]) (.seq (.seq (.reg r1 [0,1,5]) (.block 0 (.loop [0,1,5] l1))) (.seq (.reg r6 [4]) (.ret)))
def fn : AFun := ⟨[.val,.val],18,[.tmp 4],[],body⟩
end h09_Has
namespace shape_piece_bare
def r0 : List AO := [⟨some 1,.box (.t 0),none⟩,⟨some 2,.asg (.v (.bool false)),none⟩]
def r1 : List AO := [⟨some 3,.fadr 1 (.t 1),none⟩,⟨some 4,.load 1 false (.t 3),none⟩,⟨some 5,.un .not (.t 4),none⟩,⟨some 6,.mv (.t 5),none⟩,⟨some 7,.fadr 2 (.t 1),some (6,true)⟩,⟨some 8,.load 1 false (.t 7),some (6,true)⟩,⟨some 9,.un .not (.t 8),some (6,true)⟩,⟨some 10,.pick (.t 6) (.t 9) (.v (.bool false)),none⟩,⟨some 11,.mv (.t 10),none⟩,⟨some 12,.fadr 3 (.t 1),some (11,true)⟩,⟨some 13,.load 1 false (.t 12),some (11,true)⟩,⟨some 14,.un .not (.t 13),some (11,true)⟩,⟨some 15,.pick (.t 11) (.t 14) (.v (.bool false)),none⟩,⟨some 16,.mv (.t 15),none⟩,⟨some 17,.fadr 4 (.t 1),some (16,true)⟩,⟨some 18,.load 1 false (.t 17),some (16,true)⟩,⟨some 19,.len false (.t 18),some (16,true)⟩,⟨some 20,.bin .eql (.t 19) (.v (.int .i64 0)),some (16,true)⟩,⟨some 21,.pick (.t 16) (.t 20) (.v (.bool false)),none⟩,⟨some 22,.mv (.t 21),none⟩,⟨some 23,.fadr 5 (.t 1),some (22,true)⟩,⟨some 24,.load 1 false (.t 23),some (22,true)⟩,⟨some 25,.un .not (.t 24),some (22,true)⟩,⟨some 26,.pick (.t 22) (.t 25) (.v (.bool false)),none⟩,⟨some 27,.mv (.t 26),none⟩,⟨some 28,.fadr 6 (.t 1),some (27,true)⟩,⟨some 29,.load 1 false (.t 28),some (27,true)⟩,⟨some 30,.len false (.t 29),some (27,true)⟩,⟨some 31,.bin .eql (.t 30) (.v (.int .i64 0)),some (27,true)⟩,⟨some 32,.pick (.t 27) (.t 31) (.v (.bool false)),none⟩,⟨some 33,.mv (.t 32),none⟩,⟨some 34,.fadr 7 (.t 1),some (33,true)⟩,⟨some 35,.load 1 false (.t 34),some (33,true)⟩,⟨some 36,.len false (.t 35),some (33,true)⟩,⟨some 37,.bin .eql (.t 36) (.v (.int .i64 0)),some (33,true)⟩,⟨some 38,.pick (.t 33) (.t 37) (.v (.bool false)),none⟩,⟨some 39,.mv (.t 38),none⟩,⟨some 40,.fadr 8 (.t 1),some (39,true)⟩,⟨some 41,.take 1 false (.t 40),some (39,true)⟩,⟨some 42,.len false (.t 41),some (39,true)⟩,⟨some 43,.bin .eql (.t 42) (.v (.int .i64 0)),some (39,true)⟩,⟨some 44,.pick (.t 39) (.t 43) (.v (.bool false)),none⟩,⟨some 2,.asg (.t 44),none⟩]
def body : AC := .seq (.reg r0 [1]) (.seq (.reg r1 [2]) (.ret))
def fn : AFun := ⟨[.val],45,[.tmp 2],[],body⟩
end shape_piece_bare
namespace shape_rise
def r0 : List AO := [⟨some 2,.asg (.v (.bool false)),none⟩]
def r1 : List AO := [⟨some 5,.mv (.t 0),none⟩,⟨some 6,.len false (.t 5),none⟩,⟨some 7,.mv (.v (.int .i64 0)),none⟩]
def r2 : List AO := [⟨some 8,.bin .lss (.t 7) (.t 6),none⟩]
def r3 : List AO := [⟨some 9,.mv (.t 7),none⟩,⟨some 10,.iadr 1 (.t 5) (.t 7),none⟩,⟨some 11,.load 1 false (.t 10),none⟩,⟨some 3,.asg (.t 9),none⟩,⟨some 4,.asg (.t 11),none⟩]
def r4 : List AO := [⟨some 12,.mv (.t 4),none⟩,⟨some 13,.call .deep (.v (.clo F.utf_Valid [] [])) [.t 12],none⟩,⟨some 14,.un .not (.t 13),none⟩,⟨some 15,.mv (.t 14),none⟩,⟨some 16,.mv (.t 3),some (15,false)⟩,⟨some 17,.bin .gtr (.t 16) (.v (.int .i64 0)),some (15,false)⟩,⟨some 18,.mv (.t 17),some (15,false)⟩,⟨some 19,.mv (.t 0),some (18,true)⟩,⟨some 20,.mv (.t 3),some (18,true)⟩,⟨some 21,.bin .sub (.t 20) (.v (.int .i64 1)),some (18,true)⟩,⟨some 22,.iadr 1 (.t 19) (.t 21),some (18,true)⟩,⟨some 23,.load 1 false (.t 22),some (18,true)⟩,⟨some 24,.mv (.t 4),some (18,true)⟩,⟨some 25,.bin .geq (.t 23) (.t 24),some (18,true)⟩,⟨some 26,.pick (.t 18) (.t 25) (.v (.bool false)),some (15,false)⟩,⟨some 27,.pick (.t 15) (.v (.bool true)) (.t 26),none⟩]
def r5 : List AO := [⟨some 2,.asg (.v (.bool false)),none⟩]
def r6 : List AO := [⟨some 28,.bin .add (.t 7) (.v (.int .i64 1)),none⟩,⟨some 7,.mv (.t 28),none⟩]
def l1 : AC := .seq (.reg r2 [0,5,6,7,8]) (.seq (.cond (.t 8) (.skip) (.exit 0)) (.seq (.block 1 (.seq (.reg r3 [0,3,4,5,6,7]) (.seq (.reg r4 [0,5,6,7,27]) (.cond (.t 27) (.seq (.reg r5 [2]) (.ret)) (.skip))))) (.reg r6 [0,5,6,7])))
def r7 : List AO := [⟨some 2,.asg (.v (.bool true)),none⟩]
def body : AC := .seq (.reg r0 [0]) (.seq (.seq (.reg r1 [0,5,6,7]) (.block 0 (.loop [0,5,6,7] l1))) (.seq (.reg r7 [2]) (.ret)))
def fn : AFun := ⟨[.val],29,[.tmp 2],[],body⟩
end shape_rise
namespace shape_never
def r0 : List AO := [⟨some 1,.box (.t 0),none⟩,⟨some 2,.asg (.v (.bool false)),none⟩]
def r1 : List AO := [⟨some 3,.fadr 0 (.t 1),none⟩,⟨some 4,.load 1 false (.t 3),none⟩,⟨some 5,.un .not (.t 4),none⟩,⟨some 6,.mv (.t 5),none⟩,⟨some 7,.take 9 true (.t 1),some (6,true)⟩,⟨some 8,.call .deep (.v (.clo F.shape_piece_bare [] [])) [.t 7],some (6,true)⟩,⟨some 9,.pick (.t 6) (.t 8) (.v (.bool false)),none⟩,⟨some 2,.asg (.t 9),none⟩]
def body : AC := .seq (.reg r0 [1]) (.seq (.reg r1 [2]) (.ret))
def fn : AFun := ⟨[.val],10,[.tmp 2],[],body⟩
end shape_never
namespace hk_SameValue
def r0 : List AO := [⟨some 2,.box (.t 0),none⟩,⟨some 3,.box (.t 1),none⟩,⟨some 4,.asg (.v (.bool false)),none⟩]
def r1 : List AO := [⟨some 5,.fadr 0 (.t 2),none⟩,⟨some 6,.load 1 false (.t 5),none⟩,⟨some 7,.fadr 0 (.t 3),none⟩,⟨some 8,.load 1 false (.t 7),none⟩,⟨some 9,.bin .neq (.t 6) (.t 8),none⟩,⟨some 10,.mv (.t 9),none⟩,⟨some 11,.fadr 1 (.t 2),some (10,false)⟩,⟨some 12,.load 1 false (.t 11),some (10,false)⟩,⟨some 13,.fadr 1 (.t 3),some (10,false)⟩,⟨some 14,.load 1 false (.t 13),some (10,false)⟩,⟨some 15,.bin .neq (.t 12) (.t 14),some (10,false)⟩,⟨some 16,.pick (.t 10) (.v (.bool true)) (.t 15),none⟩,⟨some 17,.mv (.t 16),none⟩,⟨some 18,.fadr 2 (.t 2),some (17,false)⟩,⟨some 19,.load 1 false (.t 18),some (17,false)⟩,⟨some 20,.fadr 2 (.t 3),some (17,false)⟩,⟨some 21,.load 1 false (.t 20),some (17,false)⟩,⟨some 22,.bin .neq (.t 19) (.t 21),some (17,false)⟩,⟨some 23,.pick (.t 17) (.v (.bool true)) (.t 22),none⟩]
def r2 : List AO := [⟨some 4,.asg (.v (.bool false)),none⟩]
def r3 : List AO := [⟨some 24,.fadr 3 (.t 2),none⟩,⟨some 25,.load 1 false (.t 24),none⟩,⟨some 26,.fadr 3 (.t 3),none⟩,⟨some 27,.load 1 false (.t 26),none⟩,⟨some 28,.call .deep (.v (.clo F.hk_SameValues [] [])) [.t 25,.t 27],none⟩,⟨some 29,.un .not (.t 28),none⟩]
def r4 : List AO := [⟨some 4,.asg (.v (.bool false)),none⟩]
def r5 : List AO := [⟨some 30,.fadr 4 (.t 2),none⟩,⟨some 31,.take 1 false (.t 30),none⟩,⟨some 32,.fadr 4 (.t 3),none⟩,⟨some 33,.take 1 false (.t 32),none⟩,⟨some 34,.call .deep (.v (.clo F.hk_SameStrings [] [])) [.t 31,.t 33],none⟩,⟨some 35,.un .not (.t 34),none⟩]
def r6 : List AO := [⟨some 4,.asg (.v (.bool false)),none⟩]
def r7 : List AO := [⟨some 4,.asg (.v (.bool true)),none⟩]
def body : AC := .seq (.reg r0 [2,3]) (.seq (.seq (.reg r1 [2,3,23]) (.cond (.t 23) (.seq (.reg r2 [4]) (.ret)) (.skip))) (.seq (.seq (.reg r3 [2,3,29]) (.cond (.t 29) (.seq (.reg r4 [4]) (.ret)) (.skip))) (.seq (.seq (.reg r5 [35]) (.cond (.t 35) (.seq (.reg r6 [4]) (.ret)) (.skip))) (.seq (.reg r7 [4]) (.ret)))))
def fn : AFun := ⟨[.val,.val],36,[.tmp 4],[],body⟩
end hk_SameValue
namespace hk_SameValues
def r0 : List AO := [⟨some 4,.asg (.v (.bool false)),none⟩]
def r1 : List AO := [⟨some 6,.mv (.t 0),none⟩,⟨some 7,.len false (.t 6),none⟩,⟨some 8,.mv (.t 1),none⟩,⟨some 9,.len false (.t 8),none⟩,⟨some 10,.bin .neq (.t 7) (.t 9),none⟩]
def r2 : List AO := [⟨some 4,.asg (.v (.bool false)),none⟩]
def r3 : List AO := [⟨some 5,.asg (.v (.int .i64 0)),none⟩]
def r4 : List AO := [⟨some 11,.mv (.t 5),none⟩,⟨some 12,.mv (.t 0),none⟩,⟨some 13,.len false (.t 12),none⟩,⟨some 14,.bin .lss (.t 11) (.t 13),none⟩]
def r6 : List Ph := [.bag false [] [0,1,20,24] [(0,⟨some 17,.mv (.t 0),none⟩),(1,⟨some 18,.mv (.t 5),none⟩),(2,⟨some 19,.iadr 5 (.t 17) (.t 18),none⟩),(3,⟨some 20,.load 5 true (.t 19),none⟩),(4,⟨some 21,.mv (.t 1),none⟩),(5,⟨some 22,.mv (.t 5),none⟩),(6,⟨some 23,.iadr 5 (.t 21) (.t 22),none⟩),(7,⟨some 24,.load 5 true (.t 23),none⟩),(8,⟨some 25,.call .deep (.v (.clo F.hk_SameValue [] [])) [.t 20,.t 24],none⟩),(9,⟨some 26,.un .not (.t 25),none⟩)]]
def r7 : List AO := [⟨some 4,.asg (.v (.bool false)),none⟩]
def r5 : List AO := [⟨some 15,.mv (.t 5),none⟩,⟨some 16,.bin .add (.t 15) (.v (.int .i64 1)),none⟩,⟨some 5,.asg (.t 16),none⟩]
def l1 : AC := .seq (.seq (.reg r4 [0,1,5,14]) (.cond (.t 14) (.skip) (.exit 0))) (.seq (.block 1 (.seq (.dreg r6 [0,1,5,26]) (.cond (.t 26) (.seq (.reg r7 [4]) (.ret)) (.skip)))) (.reg r5 [0,1,5]))
def r8 : List AO := [⟨some 4,.asg (.v (.bool true)),none⟩]
def body : AC := .seq (.reg r0 [0,1]) (.seq (.seq (.reg r1 [0,1,10]) (.cond (.t 10) (.seq (.reg r2 [4]) (.ret)) (.skip))) (.seq (.seq (.reg r3 [0,1,5]) (.block 0 (.loop [0,1,5] l1))) (.seq (.reg r8 [4]) (.ret))))
def fn : AFun := ⟨[.val,.val],27,[.tmp 4],[],body⟩
end hk_SameValues
namespace slices_Contains_Ls
def r0 : List AO := [⟨some 4,.asg (.v (.bool false)),none⟩]
def r1 : List AO := [⟨some 5,.mv (.t 0),none⟩,⟨some 6,.mv (.t 1),none⟩,⟨some 7,.call .deep (.v (.clo F.slices_Index_Ls [] [])) [.t 5,.t 6],none⟩,⟨some 8,.bin .geq (.t 7) (.v (.int .i64 0)),none⟩,⟨some 4,.asg (.t 8),none⟩]
def body : AC := .seq (.reg r0 [0,1]) (.seq (.reg r1 [4]) (.ret))
def fn : AFun := ⟨[.val,.val],9,[.tmp 4],[],body⟩
end slices_Contains_Ls
namespace l10_MemberKnown
def r0 : List AO := [⟨some 0,.asg (.v (.bool false)),none⟩]
def r1 : List AO := [⟨some 7,.buildZ [.av (.str []),.av (.str [])] [(0,1,.v (.str [49])),(1,1,.v (.str [51]))],none⟩,⟨some 8,.buildS 1 2 [.av (.str []),.av (.str [])] [(0,2,.t 7)],none⟩,⟨some 9,.buildZ [.av (.bool false),.av (.bool false),.av (.bool false),.av (.bool false),.own 2 [],.av (.bool false),.own 1 [],.own 11 [],.own 12 []] [(4,1,.t 8)],none⟩,⟨some 1,.alloc [.av (.bool false),.av (.bool false),.av (.bool false),.av (.bool false),.own 2 [],.av (.bool false),.own 1 [],.own 11 [],.own 12 []],none⟩,⟨none,.store 9 (.t 1) (.t 9),none⟩]
def r2 : List AO := [⟨some 10,.load 9 true (.t 1),none⟩,⟨some 11,.buildZ [.av (.bool false),.av (.bool false),.av (.bool false),.av (.bool false),.own 2 [],.av (.bool false),.own 1 [],.own 11 [],.own 12 [],.av (.int .i64 0),.av (.int .i64 0)] [(0,9,.t 10),(9,1,.v (.int .i64 1)),(10,1,.v (.int .i64 2))],none⟩,⟨some 12,.buildS 1 11 [.av (.bool false),.av (.bool false),.av (.bool false),.av (.bool false),.own 2 [],.av (.bool false),.own 1 [],.own 11 [],.own 12 [],.av (.int .i64 0),.av (.int .i64 0)] [(0,11,.t 11)],none⟩,⟨some 13,.buildZ [.av (.bool false),.av (.bool false),.av (.bool false),.av (.bool false),.own 2 [],.av (.bool false),.own 1 [],.own 11 [],.own 12 []] [(7,1,.t 12)],none⟩,⟨some 2,.alloc [.av (.bool false),.av (.bool false),.av (.bool false),.av (.bool false),.own 2 [],.av (.bool false),.own 1 [],.own 11 [],.own 12 []],none⟩,⟨none,.store 9 (.t 2) (.t 13),none⟩]
def r3 : List Ph := [.bag false [] [15,16,17,18,19,20] [(0,⟨some 15,.call .deep (.v (.clo F.l10_whole [] [])) [.v (.str [49])],none⟩),(1,⟨some 16,.call .deep (.v (.clo F.l10_whole [] [])) [.v (.str [51])],none⟩),(2,⟨some 17,.buildS 2 5 [.av (.int .i64 0),.av (.str []),.av (.str []),.own 5 [],.own 1 []] [(0,5,.t 15),(5,5,.t 16)],none⟩),(3,⟨some 18,.buildZ [.av (.int .i64 0),.av (.str []),.av (.str []),.own 5 [],.own 1 []] [(0,1,.v (.int .i64 5)),(3,1,.t 17)],none⟩),(4,⟨some 19,.load 9 true (.t 2),none⟩),(5,⟨some 20,.call .deep (.v (.clo F.member_In [] [])) [.t 18,.t 19],none⟩),(6,⟨some 14,.mv (.t 20),none⟩),(7,⟨some 21,.ext (.t 14) 0,none⟩),(8,⟨some 22,.ext (.t 14) 1,none⟩),(9,⟨some 3,.asg (.t 21),none⟩),(10,⟨some 4,.asg (.t 22),none⟩)]]
def r4 : List AO := [⟨some 24,.buildZ [.av (.int .i64 0),.av (.str []),.av (.str []),.own 5 [],.own 1 []] [(0,1,.v (.int .i64 5))],none⟩,⟨some 25,.load 9 true (.t 2),none⟩,⟨some 26,.call .deep (.v (.clo F.member_In [] [])) [.t 24,.t 25],none⟩,⟨some 23,.mv (.t 26),none⟩,⟨some 27,.ext (.t 23) 0,none⟩,⟨some 28,.ext (.t 23) 1,none⟩,⟨some 5,.asg (.t 27),none⟩,⟨some 6,.asg (.t 28),none⟩]
def r5 : List AO := [⟨some 29,.mv (.t 3),none⟩,⟨some 30,.un .not (.t 29),none⟩,⟨some 31,.mv (.t 30),none⟩,⟨some 32,.mv (.t 5),some (31,false)⟩,⟨some 33,.pick (.t 31) (.v (.bool true)) (.t 32),none⟩,⟨some 34,.mv (.t 33),none⟩,⟨some 35,.mv (.t 4),some (34,false)⟩,⟨some 36,.bin .neq (.t 35) (.v (.int .i64 0)),some (34,false)⟩,⟨some 37,.pick (.t 34) (.v (.bool true)) (.t 36),none⟩,⟨some 38,.mv (.t 37),none⟩,⟨some 39,.mv (.t 6),some (38,false)⟩,⟨some 40,.bin .neq (.t 39) (.v (.int .i64 0)),some (38,false)⟩,⟨some 41,.pick (.t 38) (.v (.bool true)) (.t 40),none⟩]
def r6 : List AO := [⟨some 0,.asg (.v (.bool false)),none⟩]
def r7 : List Ph := [.bag false [] [42,43,47,48,53,54,59,60,65,66] [(0,⟨some 42,.call .deep (.v (.clo F.l10_whole [] [])) [.v (.str [52])],none⟩),(1,⟨some 43,.load 9 true (.t 1),none⟩),(2,⟨some 44,.call .deep (.v (.clo F.l10_why [] [])) [.t 42,.t 43,.w [.own 5 []] false,.v (.int .i64 2)],none⟩),(3,⟨some 45,.un .not (.t 44),none⟩),(4,⟨some 46,.mv (.t 45),none⟩),(5,⟨some 47,.call .deep (.v (.clo F.l10_word [] [])) [.v (.str [97])],some (46,false)⟩),(6,⟨some 48,.load 9 true (.t 1),some (46,false)⟩),(7,⟨some 49,.call .deep (.v (.clo F.l10_why [] [])) [.t 47,.t 48,.w [.own 5 []] false,.v (.int .i64 1)],some (46,false)⟩),(8,⟨some 50,.un .not (.t 49),some (46,false)⟩),(9,⟨some 51,.pick (.t 46) (.v (.bool true)) (.t 50),none⟩),(10,⟨some 52,.mv (.t 51),none⟩),(11,⟨some 53,.buildZ [.av (.int .i64 0),.av (.str []),.av (.str []),.own 5 [],.own 1 []] [(0,1,.v (.int .i64 5))],some (52,false)⟩),(12,⟨some 54,.load 9 true (.t 2),some (52,false)⟩),(13,⟨some 55,.call .deep (.v (.clo F.l10_why [] [])) [.t 53,.t 54,.w [.own 5 []] false,.v (.int .i64 4)],some (52,false)⟩),(14,⟨some 56,.un .not (.t 55),some (52,false)⟩),(15,⟨some 57,.pick (.t 52) (.v (.bool true)) (.t 56),none⟩),(16,⟨some 58,.mv (.t 57),none⟩),(17,⟨some 59,.buildZ [.av (.int .i64 0),.av (.str []),.av (.str []),.own 5 [],.own 1 []] [],some (58,false)⟩),(18,⟨some 60,.buildZ [.av (.bool false),.av (.bool false),.av (.bool false),.av (.bool false),.own 2 [],.av (.bool false),.own 1 [],.own 11 [],.own 12 []] [(0,1,.v (.bool true))],some (58,false)⟩),(19,⟨some 61,.call .deep (.v (.clo F.l10_why [] [])) [.t 59,.t 60,.w [.own 5 []] false,.v (.int .i64 0)],some (58,false)⟩),(20,⟨some 62,.un .not (.t 61),some (58,false)⟩),(21,⟨some 63,.pick (.t 58) (.v (.bool true)) (.t 62),none⟩),(22,⟨some 64,.mv (.t 63),none⟩),(23,⟨some 65,.buildZ [.av (.int .i64 0),.av (.str []),.av (.str []),.own 5 [],.own 1 []] [],some (64,false)⟩),(24,⟨some 66,.buildZ [.av (.bool false),.av (.bool false),.av (.bool false),.av (.bool false),.own 2 [],.av (.bool false),.own 1 [],.own 11 [],.own 12 []] [],some (64,false)⟩),(25,⟨some 67,.call .deep (.v (.clo F.l10_why [] [])) [.t 65,.t 66,.w [.own 5 []] false,.v (.int .i64 1)],some (64,false)⟩),(26,⟨some 68,.un .not (.t 67),some (64,false)⟩),(27,⟨some 69,.pick (.t 64) (.v (.bool true)) (.t 68),none⟩)]]
def r8 : List AO := [⟨some 0,.asg (.v (.bool false)),none⟩]
def r9 : List Ph := [.bag false [] [70,71,72,73,74,75,76] [(0,⟨some 70,.call .deep (.v (.clo F.l10_whole [] [])) [.v (.str [49])],none⟩),(1,⟨some 71,.call .deep (.v (.clo F.l10_whole [] [])) [.v (.str [57])],none⟩),(2,⟨some 72,.buildS 2 5 [.av (.int .i64 0),.av (.str []),.av (.str []),.own 5 [],.own 1 []] [(0,5,.t 70),(5,5,.t 71)],none⟩),(3,⟨some 73,.buildZ [.av (.int .i64 0),.av (.str []),.av (.str []),.own 5 [],.own 1 []] [(0,1,.v (.int .i64 5)),(3,1,.t 72)],none⟩),(4,⟨some 74,.load 9 true (.t 2),none⟩),(5,⟨some 75,.call .deep (.v (.clo F.l10_whole [] [])) [.v (.str [49])],none⟩),(6,⟨some 76,.buildS 1 5 [.av (.int .i64 0),.av (.str []),.av (.str []),.own 5 [],.own 1 []] [(0,5,.t 75)],none⟩),(7,⟨some 77,.call .deep (.v (.clo F.l10_why [] [])) [.t 73,.t 74,.t 76,.v (.int .i64 2)],none⟩),(8,⟨some 78,.un .not (.t 77),none⟩)]]
def r10 : List AO := [⟨some 0,.asg (.v (.bool false)),none⟩]
def r11 : List AO := [⟨some 79,.buildS 1 1 [.av (.str [])] [(0,1,.v (.str [110]))],none⟩,⟨some 80,.call .deep (.v (.clo F.l10_whole [] [])) [.v (.str [55])],none⟩,⟨some 81,.buildS 1 5 [.av (.int .i64 0),.av (.str []),.av (.str []),.own 5 [],.own 1 []] [(0,5,.t 80)],none⟩,⟨some 82,.buildZ [.av (.int .i64 0),.av (.str []),.av (.str []),.own 5 [],.own 1 []] [(0,1,.v (.int .i64 6)),(4,1,.t 79),(3,1,.t 81)],none⟩,⟨some 83,.call .deep (.v (.clo F.l10_fields [] [])) [],none⟩,⟨some 84,.call .deep (.v (.clo F.l10_word [] [])) [.v (.str [107])],none⟩,⟨some 85,.buildS 1 5 [.av (.int .i64 0),.av (.str []),.av (.str []),.own 5 [],.own 1 []] [(0,5,.t 84)],none⟩,⟨some 86,.call .deep (.v (.clo F.l10_why [] [])) [.t 82,.t 83,.t 85,.v (.int .i64 6)],none⟩,⟨some 87,.un .not (.t 86),none⟩]
def r12 : List AO := [⟨some 0,.asg (.v (.bool false)),none⟩]
def r13 : List AO := [⟨some 88,.buildS 2 1 [.av (.str [])] [(0,1,.v (.str [107])),(1,1,.v (.str [110]))],none⟩,⟨some 89,.call .deep (.v (.clo F.l10_word [] [])) [.v (.str [97])],none⟩,⟨some 90,.call .deep (.v (.clo F.l10_whole [] [])) [.v (.str [55])],none⟩,⟨some 91,.buildS 2 5 [.av (.int .i64 0),.av (.str []),.av (.str []),.own 5 [],.own 1 []] [(0,5,.t 89),(5,5,.t 90)],none⟩,⟨some 92,.buildZ [.av (.int .i64 0),.av (.str []),.av (.str []),.own 5 [],.own 1 []] [(0,1,.v (.int .i64 6)),(4,1,.t 88),(3,1,.t 91)],none⟩,⟨some 93,.call .deep (.v (.clo F.l10_fields [] [])) [],none⟩,⟨some 94,.call .deep (.v (.clo F.l10_word [] [])) [.v (.str [110])],none⟩,⟨some 95,.buildS 1 5 [.av (.int .i64 0),.av (.str []),.av (.str []),.own 5 [],.own 1 []] [(0,5,.t 94)],none⟩,⟨some 96,.call .deep (.v (.clo F.l10_why [] [])) [.t 92,.t 93,.t 95,.v (.int .i64 2)],none⟩,⟨some 97,.un .not (.t 96),none⟩]
def r14 : List AO := [⟨some 0,.asg (.v (.bool false)),none⟩]
def r15 : List AO := [⟨some 99,.buildZ [.av (.int .i64 0),.av (.str []),.av (.str []),.own 5 [],.own 1 []] [(0,1,.v (.int .i64 8))],none⟩,⟨some 100,.take 9 true (.t 1),none⟩,⟨some 101,.call .deep (.v (.clo F.member_Why [] [])) [.t 99,.t 100],none⟩,⟨some 98,.mv (.t 101),none⟩,⟨some 102,.ext (.t 98) 0,none⟩,⟨some 103,.ext (.t 98) 1,none⟩,⟨some 104,.ext (.t 98) 2,none⟩,⟨some 4,.asg (.t 104),none⟩]
def r16 : List AO := [⟨some 105,.mv (.t 4),none⟩,⟨some 106,.bin .eql (.t 105) (.v (.int .i64 1)),none⟩,⟨some 0,.asg (.t 106),none⟩]
def body : AC := .seq (.reg r0 []) (.seq (.reg r1 [1]) (.seq (.reg r2 [1,2]) (.seq (.dreg r3 [1,2,3,4]) (.seq (.reg r4 [1,2,3,4,5,6]) (.seq (.seq (.reg r5 [1,2,41]) (.cond (.t 41) (.seq (.reg r6 [0]) (.ret)) (.skip))) (.seq (.seq (.dreg r7 [1,2,69]) (.cond (.t 69) (.seq (.reg r8 [0]) (.ret)) (.skip))) (.seq (.seq (.dreg r9 [1,78]) (.cond (.t 78) (.seq (.reg r10 [0]) (.ret)) (.skip))) (.seq (.seq (.reg r11 [1,87]) (.cond (.t 87) (.seq (.reg r12 [0]) (.ret)) (.skip))) (.seq (.seq (.reg r13 [1,97]) (.cond (.t 97) (.seq (.reg r14 [0]) (.ret)) (.skip))) (.seq (.reg r15 [4]) (.seq (.reg r16 [0]) (.ret))))))))))))
def fn : AFun := ⟨[],107,[.tmp 0],[],body⟩
end l10_MemberKnown
namespace l10_whole
def r0 : List AO := [⟨some 2,.alloc [.av (.int .i64 0),.av (.str []),.av (.str []),.own 5 [],.own 1 []],none⟩]
def r1 : List AO := [⟨some 3,.mv (.t 0),none⟩,⟨some 4,.build [.av (.int .i64 0),.av (.str []),.av (.str []),.own 5 [],.own 1 []] [(0,1,.v (.int .i64 3)),(1,1,.t 3)],none⟩,⟨none,.store 5 (.t 2) (.t 4),none⟩]
def body : AC := .seq (.reg r0 [0,2]) (.seq (.reg r1 [2]) (.ret))
def fn : AFun := ⟨[.val],5,[.cell 2 5 true],[],body⟩
end l10_whole
namespace member_In
def r0 : List AO := [⟨some 2,.box (.t 0),none⟩,⟨some 3,.box (.t 1),none⟩,⟨some 4,.asg (.v (.bool false)),none⟩,⟨some 5,.asg (.v (.int .i64 0)),none⟩]
def r1 : List AO := [⟨some 6,.load 5 true (.t 2),none⟩,⟨some 7,.load 9 true (.t 3),none⟩,⟨some 8,.call .deep (.v (.clo F.member_formed [] [])) [.t 6,.t 7],none⟩,⟨some 9,.un .not (.t 8),none⟩]
def r2 : List AO := [⟨some 4,.asg (.v (.bool false)),none⟩,⟨some 5,.asg (.v (.int .i64 1)),none⟩]
def r3 : List AO := [⟨some 10,.take 5 true (.t 2),none⟩,⟨some 11,.take 9 true (.t 3),none⟩,⟨some 12,.call .deep (.v (.clo F.member_look [] [])) [.t 10,.t 11],none⟩,⟨some 13,.isnil .ifc false (.t 12),none⟩,⟨some 4,.asg (.t 13),none⟩,⟨some 5,.asg (.v (.int .i64 0)),none⟩]
def body : AC := .seq (.reg r0 [2,3]) (.seq (.seq (.reg r1 [2,3,9]) (.cond (.t 9) (.seq (.reg r2 [4,5]) (.ret)) (.skip))) (.seq (.reg r3 [4,5]) (.ret)))
def fn : AFun := ⟨[.val,.val],14,[.tmp 4,.tmp 5],[],body⟩
end member_In
namespace l10_why
def r0 : List AO := [⟨some 4,.box (.t 0),none⟩,⟨some 5,.box (.t 1),none⟩,⟨some 8,.asg (.v (.bool false)),none⟩]
def r1 : List AO := [⟨some 13,.take 5 true (.t 4),none⟩,⟨some 14,.take 9 true (.t 5),none⟩,⟨some 15,.call .deep (.v (.clo F.member_Why [] [])) [.t 13,.t 14],none⟩,⟨some 12,.mv (.t 15),none⟩,⟨some 16,.ext (.t 12) 0,none⟩,⟨some 17,.ext (.t 12) 1,none⟩,⟨some 18,.ext (.t 12) 2,none⟩,⟨some 9,.asgo (.t 16),none⟩,⟨some 10,.asg (.t 17),none⟩,⟨some 11,.asg (.t 18),none⟩]
def r2 : List AO := [⟨some 19,.mvt 9,none⟩,⟨some 20,.mv (.t 2),none⟩,⟨some 21,.call .deep (.v (.clo F.hk_SameValues [] [])) [.t 19,.t 20],none⟩,⟨some 22,.mv (.t 21),none⟩,⟨some 23,.mv (.t 10),some (22,true)⟩,⟨some 24,.mv (.t 3),some (22,true)⟩,⟨some 25,.bin .eql (.t 23) (.t 24),some (22,true)⟩,⟨some 26,.pick (.t 22) (.t 25) (.v (.bool false)),none⟩,⟨some 27,.mv (.t 26),none⟩,⟨some 28,.mv (.t 11),some (27,true)⟩,⟨some 29,.bin .eql (.t 28) (.v (.int .i64 0)),some (27,true)⟩,⟨some 30,.pick (.t 27) (.t 29) (.v (.bool false)),none⟩,⟨some 8,.asg (.t 30),none⟩]
def body : AC := .seq (.reg r0 [2,3,4,5]) (.seq (.reg r1 [2,3,9,10,11]) (.seq (.reg r2 [8]) (.ret)))
def fn : AFun := ⟨[.val,.val,.val,.val],31,[.tmp 8],[9],body⟩
end l10_why
namespace l10_word
def r0 : List AO := [⟨some 2,.alloc [.av (.int .i64 0),.av (.str []),.av (.str []),.own 5 [],.own 1 []],none⟩]
def r1 : List AO := [⟨some 3,.mv (.t 0),none⟩,⟨some 4,.build [.av (.int .i64 0),.av (.str []),.av (.str []),.own 5 [],.own 1 []] [(0,1,.v (.int .i64 4)),(2,1,.t 3)],none⟩,⟨none,.store 5 (.t 2) (.t 4),none⟩]
def body : AC := .seq (.reg r0 [0,2]) (.seq (.reg r1 [2]) (.ret))
def fn : AFun := ⟨[.val],5,[.cell 2 5 true],[],body⟩
end l10_word
namespace l10_fields
def r0 : List AO := [⟨some 0,.alloc [.av (.bool false),.av (.bool false),.av (.bool false),.av (.bool false),.own 2 [],.av (.bool false),.own 1 [],.own 11 [],.own 12 []],none⟩]
def r1 : List AO := [⟨some 2,.build [.av (.str []),.av (.str [])] [(0,1,.v (.str [49])),(1,1,.v (.str [51]))],none⟩,⟨some 3,.buildS 1 2 [.av (.str []),.av (.str [])] [(0,2,.t 2)],none⟩,⟨some 4,.build [.av (.bool false),.av (.bool false),.av (.bool false),.av (.bool false),.own 2 [],.av (.bool false),.own 1 [],.own 11 [],.own 12 []] [(4,1,.t 3)],none⟩,⟨some 1,.alloc [.av (.bool false),.av (.bool false),.av (.bool false),.av (.bool false),.own 2 [],.av (.bool false),.own 1 [],.own 11 [],.own 12 []],none⟩,⟨none,.store 9 (.t 1) (.t 4),none⟩]
def r2 : List AO := [⟨some 5,.buildS 2 1 [.av (.str [])] [(0,1,.v (.str [107])),(1,1,.v (.str [110]))],none⟩,⟨some 6,.buildS 2 1 [.av (.str [])] [(0,1,.v (.str [97])),(1,1,.v (.str [98]))],none⟩,⟨some 7,.build [.av (.bool false),.av (.bool false),.av (.bool false),.av (.bool false),.own 2 [],.av (.bool false),.own 1 [],.own 11 [],.own 12 []] [(6,1,.t 6)],none⟩,⟨some 8,.take 9 true (.t 1),none⟩,⟨some 9,.buildS 2 9 [.av (.bool false),.av (.bool false),.av (.bool false),.av (.bool false),.own 2 [],.av (.bool false),.own 1 [],.own 11 [],.own 12 []] [(0,9,.t 7),(9,9,.t 8)],none⟩,⟨some 10,.buildS 2 1 [.av (.bool false)] [(0,1,.v (.bool true)),(1,1,.v (.bool false))],none⟩,⟨some 11,.build [.av (.bool false),.av (.bool false),.av (.bool false),.av (.bool false),.own 2 [],.av (.bool false),.own 1 [],.own 11 [],.own 12 []] [(1,1,.v (.bool true))],none⟩,⟨some 12,.build [.own 1 [],.own 9 [],.own 1 [],.av (.bool false),.av (.bool false),.av (.bool false),.av (.bool false),.own 2 [],.av (.bool false),.own 1 [],.own 11 [],.own 12 []] [(0,1,.t 5),(1,1,.t 9),(2,1,.t 10),(3,9,.t 11)],none⟩,⟨some 13,.buildS 1 12 [.own 1 [],.own 9 [],.own 1 [],.av (.bool false),.av (.bool false),.av (.bool false),.av (.bool false),.own 2 [],.av (.bool false),.own 1 [],.own 11 [],.own 12 []] [(0,12,.t 12)],none⟩,⟨some 14,.build [.av (.bool false),.av (.bool false),.av (.bool false),.av (.bool false),.own 2 [],.av (.bool false),.own 1 [],.own 11 [],.own 12 []] [(8,1,.t 13)],none⟩,⟨none,.store 9 (.t 0) (.t 14),none⟩]
def body : AC := .seq (.reg r0 [0]) (.seq (.reg r1 [0,1]) (.seq (.reg r2 [0]) (.ret)))
def fn : AFun := ⟨[],15,[.cell 0 9 true],[],body⟩
end l10_fields
namespace member_Why
def r0 : List AO := [⟨some 2,.box (.t 0),none⟩,⟨some 3,.box (.t 1),none⟩,⟨some 4,.asgo (.w [.own 5 []] false),none⟩,⟨some 5,.asg (.v (.int .i64 0)),none⟩,⟨some 6,.asg (.v (.int .i64 0)),none⟩]
def r1 : List AO := [⟨some 9,.load 5 true (.t 2),none⟩,⟨some 10,.load 9 true (.t 3),none⟩,⟨some 11,.call .deep (.v (.clo F.member_formed [] [])) [.t 9,.t 10],none⟩,⟨some 12,.un .not (.t 11),none⟩]
def r2 : List AO := [⟨some 4,.asgo (.w [.own 5 []] false),none⟩,⟨some 5,.asg (.v (.int .i64 0)),none⟩,⟨some 6,.asg (.v (.int .i64 1)),none⟩]
def r3 : List AO := [⟨some 13,.take 5 true (.t 2),none⟩,⟨some 14,.take 9 true (.t 3),none⟩,⟨some 15,.call .deep (.v (.clo F.member_look [] [])) [.t 13,.t 14],none⟩,⟨some 7,.asg (.t 15),none⟩]
def r4 : List AO := [⟨some 8,.alloc [.av .nilp],none⟩]
def r6 : List AO := [⟨some 19,.load 1 false (.t 8),none⟩,⟨some 20,.nilc (.t 19),none⟩,⟨some 21,.fadr 6 (.t 20),none⟩,⟨some 22,.load 1 false (.t 21),none⟩,⟨some 23,.isnil .ifc true (.t 22),none⟩,⟨some 24,.mv (.t 23),none⟩,⟨some 25,.load 1 false (.t 8),some (24,false)⟩,⟨some 26,.nilc (.t 25),some (24,false)⟩,⟨some 27,.fadr 0 (.t 26),some (24,false)⟩,⟨some 28,.load 1 false (.t 27),some (24,false)⟩,⟨some 29,.bin .eql (.t 28) (.v (.int .i64 6)),some (24,false)⟩,⟨some 30,.pick (.t 24) (.v (.bool true)) (.t 29),none⟩]
def r7 : List AO := [⟨some 31,.mvt 4,none⟩,⟨some 32,.load 1 false (.t 8),none⟩,⟨some 33,.nilc (.t 32),none⟩,⟨some 34,.fadr 1 (.t 33),none⟩,⟨some 35,.load 5 true (.t 34),none⟩,⟨some 36,.buildS 1 5 [.av (.int .i64 0),.av (.str []),.av (.str []),.own 5 [],.own 1 []] [(0,5,.t 35)],none⟩,⟨some 37,.append 88 5 (.t 31) (.t 36),none⟩,⟨some 4,.asgo (.t 37),none⟩]
def r8 : List Ph := [.bag false [] [] [(0,⟨some 38,.load 1 false (.t 8),none⟩),(1,⟨some 39,.nilc (.t 38),none⟩),(2,⟨some 40,.fadr 0 (.t 39),none⟩),(3,⟨some 41,.load 1 false (.t 40),none⟩),(4,⟨some 42,.load 1 false (.t 8),none⟩),(5,⟨some 43,.nilc (.t 42),none⟩),(6,⟨some 44,.fadr 6 (.t 43),none⟩),(7,⟨some 45,.load 1 false (.t 44),none⟩),(8,⟨some 5,.asg (.t 41),none⟩),(9,⟨some 7,.asg (.t 45),none⟩)]]
def l1 : AC := .seq (.seq (.ask F.errors_As 18 16 17 1 0 7 8 [4,5,8,18]) (.cond (.t 18) (.skip) (.exit 0))) (.block 1 (.seq (.seq (.reg r6 [4,8,30]) (.cond (.t 30) (.reg r7 [4,8]) (.skip))) (.dreg r8 [4,5,7,8])))
def r9 : List AO := [⟨some 46,.mvt 4,none⟩,⟨some 47,.mv (.t 5),none⟩,⟨some 4,.asgo (.t 46),none⟩,⟨some 5,.asg (.t 47),none⟩,⟨some 6,.asg (.v (.int .i64 0)),none⟩]
def body : AC := .seq (.reg r0 [2,3,4,5]) (.seq (.seq (.reg r1 [2,3,4,5,12]) (.cond (.t 12) (.seq (.reg r2 [4,5,6]) (.ret)) (.skip))) (.seq (.reg r3 [4,5,7]) (.seq (.reg r4 [4,5,7,8]) (.seq (.block 0 (.loop [4,5,7,8] l1)) (.seq (.reg r9 [4,5,6]) (.ret))))))
def fn : AFun := ⟨[.val,.val],48,[.tmp 4,.tmp 5,.tmp 6],[4],body⟩
end member_Why
namespace member_formed
def r0 : List AO := [⟨some 2,.box (.t 0),none⟩,⟨some 3,.box (.t 1),none⟩,⟨some 4,.asg (.v (.bool false)),none⟩]
def r1 : List AO := [⟨some 5,.take 5 true (.t 2),none⟩,⟨some 6,.call .deep (.v (.clo F.value_Formed [] [])) [.t 5],none⟩,⟨some 7,.mv (.t 6),none⟩,⟨some 8,.take 9 true (.t 3),some (7,true)⟩,⟨some 9,.call .deep (.v (.clo F.shape_Formed [] [])) [.t 8],some (7,true)⟩,⟨some 10,.pick (.t 7) (.t 9) (.v (.bool false)),none⟩,⟨some 4,.asg (.t 10),none⟩]
def body : AC := .seq (.reg r0 [2,3]) (.seq (.reg r1 [4]) (.ret))
def fn : AFun := ⟨[.val,.val],11,[.tmp 4],[],body⟩
end member_formed
namespace member_look
def r0 : List AO := [⟨some 2,.box (.t 0),none⟩,⟨some 3,.box (.t 1),none⟩,⟨some 4,.asg (.v .nili),none⟩]
def r1 : List AO := [⟨some 5,.fadr 0 (.t 3),none⟩,⟨some 6,.load 1 false (.t 5),none⟩]
def r2 : List AO := [⟨some 4,.asg (.v .nili),none⟩]
def r3 : List Ph := [.bag false [] [7] [(0,⟨some 7,.load 9 true (.t 3),none⟩),(1,⟨some 8,.call .deep (.v (.clo F.shape_Kinds [] [])) [.t 7],none⟩),(2,⟨some 9,.fadr 0 (.t 2),none⟩),(3,⟨some 10,.load 1 false (.t 9),none⟩),(4,⟨some 11,.bin .shr (.t 8) (.t 10),none⟩),(5,⟨some 12,.bin .and (.t 11) (.v (.int .u8 1)),none⟩),(6,⟨some 13,.bin .eql (.t 12) (.v (.int .u8 0)),none⟩)]]
def r4 : List AO := [⟨some 14,.build [.av (.int .i64 0),.av (.int .i64 0),.av (.str []),.av (.str []),.own 5 [],.own 1 [],.av .nili] [(0,1,.v (.int .i64 1))],none⟩,⟨some 15,.box (.t 14),none⟩,⟨some 16,.mki 1 (.t 15),none⟩,⟨some 4,.asg (.t 16),none⟩]
def r5 : List AO := [⟨some 17,.fadr 0 (.t 2),none⟩,⟨some 18,.load 1 false (.t 17),none⟩]
def r6 : List AO := [⟨some 20,.bin .eql (.t 18) (.v (.int .i64 3)),none⟩,⟨some 19,.asg (.t 20),none⟩]
def r7 : List Ph := [.bag false [] [26] [(0,⟨some 21,.fadr 1 (.t 2),none⟩),(1,⟨some 22,.load 1 false (.t 21),none⟩),(2,⟨some 23,.fadr 4 (.t 3),none⟩),(3,⟨some 24,.load 1 false (.t 23),none⟩),(4,⟨some 25,.iadr 2 (.t 24) (.v (.int .i64 0)),none⟩),(5,⟨some 26,.load 2 true (.t 25),none⟩),(6,⟨some 27,.call .deep (.v (.clo F.member_inSpan [] [])) [.t 22,.t 26],none⟩),(7,⟨some 28,.un .not (.t 27),none⟩)]]
def r8 : List AO := [⟨some 29,.build [.av (.int .i64 0),.av (.int .i64 0),.av (.str []),.av (.str []),.own 5 [],.own 1 [],.av .nili] [(0,1,.v (.int .i64 2))],none⟩,⟨some 30,.box (.t 29),none⟩,⟨some 31,.mki 1 (.t 30),none⟩,⟨some 4,.asg (.t 31),none⟩]
def r9 : List AO := [⟨some 33,.bin .eql (.t 18) (.v (.int .i64 4)),none⟩,⟨some 32,.asg (.t 33),none⟩]
def r10 : List AO := [⟨some 34,.fadr 5 (.t 3),none⟩,⟨some 35,.load 1 false (.t 34),none⟩,⟨some 36,.un .not (.t 35),none⟩,⟨some 37,.mv (.t 36),none⟩,⟨some 38,.fadr 6 (.t 3),some (37,true)⟩,⟨some 39,.take 1 false (.t 38),some (37,true)⟩,⟨some 40,.fadr 2 (.t 2),some (37,true)⟩,⟨some 41,.load 1 false (.t 40),some (37,true)⟩,⟨some 42,.call .deep (.v (.clo F.slices_Contains_Ls [] [])) [.t 39,.t 41],some (37,true)⟩,⟨some 43,.un .not (.t 42),some (37,true)⟩,⟨some 44,.pick (.t 37) (.t 43) (.v (.bool false)),none⟩]
def r11 : List AO := [⟨some 45,.build [.av (.int .i64 0),.av (.int .i64 0),.av (.str []),.av (.str []),.own 5 [],.own 1 [],.av .nili] [(0,1,.v (.int .i64 3))],none⟩,⟨some 46,.box (.t 45),none⟩,⟨some 47,.mki 1 (.t 46),none⟩,⟨some 4,.asg (.t 47),none⟩]
def r12 : List AO := [⟨some 49,.bin .eql (.t 18) (.v (.int .i64 5)),none⟩,⟨some 48,.asg (.t 49),none⟩]
def r13 : List Ph := [.bag false [] [50,54] [(0,⟨some 50,.load 5 true (.t 2),none⟩),(1,⟨some 51,.fadr 7 (.t 3),none⟩),(2,⟨some 52,.load 1 false (.t 51),none⟩),(3,⟨some 53,.iadr 11 (.t 52) (.v (.int .i64 0)),none⟩),(4,⟨some 54,.load 11 true (.t 53),none⟩),(5,⟨some 55,.call .deep (.v (.clo F.member_lookArray [] [])) [.t 50,.t 54],none⟩),(6,⟨some 4,.asg (.t 55),none⟩)]]
def r14 : List AO := [⟨some 57,.bin .eql (.t 18) (.v (.int .i64 6)),none⟩,⟨some 56,.asg (.t 57),none⟩]
def r15 : List AO := [⟨some 58,.take 5 true (.t 2),none⟩,⟨some 59,.fadr 8 (.t 3),none⟩,⟨some 60,.take 1 false (.t 59),none⟩,⟨some 61,.call .deep (.v (.clo F.member_lookObject [] [])) [.t 58,.t 60],none⟩,⟨some 4,.asg (.t 61),none⟩]
def r16 : List AO := [⟨some 4,.asg (.v .nili),none⟩]
def body : AC := .seq (.reg r0 [2,3]) (.seq (.seq (.reg r1 [2,3,6]) (.cond (.t 6) (.seq (.reg r2 [4]) (.ret)) (.skip))) (.seq (.seq (.dreg r3 [2,3,13]) (.cond (.t 13) (.seq (.reg r4 [4]) (.ret)) (.skip))) (.seq (.seq (.reg r5 [2,3,18]) (.block 0 (.seq (.reg r6 [2,3,18,19]) (.cond (.t 19) (.seq (.dreg r7 [28]) (.cond (.t 28) (.seq (.reg r8 [4]) (.ret)) (.skip))) (.seq (.reg r9 [2,3,18,32]) (.cond (.t 32) (.seq (.reg r10 [44]) (.cond (.t 44) (.seq (.reg r11 [4]) (.ret)) (.skip))) (.seq (.reg r12 [2,3,18,48]) (.cond (.t 48) (.seq (.dreg r13 [4]) (.ret)) (.seq (.reg r14 [2,3,56]) (.cond (.t 56) (.seq (.reg r15 [4]) (.ret)) (.skip))))))))))) (.seq (.reg r16 [4]) (.ret)))))
def fn : AFun := ⟨[.val,.val],62,[.tmp 4],[],body⟩
end member_look
namespace member_inSpan
def r0 : List AO := [⟨some 3,.box (.t 1),none⟩,⟨some 4,.asg (.v (.bool false)),none⟩]
def r1 : List AO := [⟨some 10,.mv (.t 0),none⟩,⟨some 11,.fadr 0 (.t 3),none⟩,⟨some 12,.load 1 false (.t 11),none⟩,⟨some 13,.call .deep (.v (.clo F.tens_Cmp [] [])) [.t 10,.t 12],none⟩,⟨some 9,.mv (.t 13),none⟩,⟨some 14,.ext (.t 9) 0,none⟩,⟨some 15,.ext (.t 9) 1,none⟩,⟨some 5,.asg (.t 14),none⟩,⟨some 6,.asg (.t 15),none⟩]
def r2 : List AO := [⟨some 17,.mv (.t 0),none⟩,⟨some 18,.fadr 1 (.t 3),none⟩,⟨some 19,.load 1 false (.t 18),none⟩,⟨some 20,.call .deep (.v (.clo F.tens_Cmp [] [])) [.t 17,.t 19],none⟩,⟨some 16,.mv (.t 20),none⟩,⟨some 21,.ext (.t 16) 0,none⟩,⟨some 22,.ext (.t 16) 1,none⟩,⟨some 7,.asg (.t 21),none⟩,⟨some 8,.asg (.t 22),none⟩]
def r3 : List AO := [⟨some 23,.mv (.t 5),none⟩,⟨some 24,.bin .geq (.t 23) (.v (.int .i64 0)),none⟩,⟨some 25,.mv (.t 24),none⟩,⟨some 26,.mv (.t 7),some (25,true)⟩,⟨some 27,.bin .leq (.t 26) (.v (.int .i64 0)),some (25,true)⟩,⟨some 28,.pick (.t 25) (.t 27) (.v (.bool false)),none⟩,⟨some 4,.asg (.t 28),none⟩]
def body : AC := .seq (.reg r0 [0,3]) (.seq (.reg r1 [0,3,5]) (.seq (.reg r2 [5,7]) (.seq (.reg r3 [4]) (.ret))))
def fn : AFun := ⟨[.val,.val],29,[.tmp 4],[],body⟩
end member_inSpan
namespace member_lookArray
def r0 : List AO := [⟨some 2,.box (.t 0),none⟩,⟨some 3,.box (.t 1),none⟩,⟨some 4,.asg (.v .nili),none⟩]
def r1 : List AO := [⟨some 9,.fadr 3 (.t 2),none⟩,⟨some 10,.load 1 false (.t 9),none⟩,⟨some 11,.len false (.t 10),none⟩,⟨some 12,.fadr 9 (.t 3),none⟩,⟨some 13,.load 1 false (.t 12),none⟩,⟨some 14,.bin .lss (.t 11) (.t 13),none⟩,⟨some 8,.asg (.t 14),none⟩]
def r2 : List AO := [⟨some 15,.build [.av (.int .i64 0),.av (.int .i64 0),.av (.str []),.av (.str []),.own 5 [],.own 1 [],.av .nili] [(0,1,.v (.int .i64 4))],none⟩,⟨some 16,.box (.t 15),none⟩,⟨some 17,.mki 1 (.t 16),none⟩,⟨some 4,.asg (.t 17),none⟩]
def r3 : List AO := [⟨some 19,.fadr 10 (.t 3),none⟩,⟨some 20,.load 1 false (.t 19),none⟩,⟨some 21,.bin .geq (.t 20) (.v (.int .i64 0)),none⟩,⟨some 22,.mv (.t 21),none⟩,⟨some 23,.fadr 3 (.t 2),some (22,true)⟩,⟨some 24,.load 1 false (.t 23),some (22,true)⟩,⟨some 25,.len false (.t 24),some (22,true)⟩,⟨some 26,.fadr 10 (.t 3),some (22,true)⟩,⟨some 27,.load 1 false (.t 26),some (22,true)⟩,⟨some 28,.bin .gtr (.t 25) (.t 27),some (22,true)⟩,⟨some 29,.pick (.t 22) (.t 28) (.v (.bool false)),none⟩,⟨some 18,.asg (.t 29),none⟩]
def r4 : List AO := [⟨some 30,.build [.av (.int .i64 0),.av (.int .i64 0),.av (.str []),.av (.str []),.own 5 [],.own 1 [],.av .nili] [(0,1,.v (.int .i64 5))],none⟩,⟨some 31,.box (.t 30),none⟩,⟨some 32,.mki 1 (.t 31),none⟩,⟨some 4,.asg (.t 32),none⟩]
def r5 : List AO := [⟨some 33,.fadr 3 (.t 2),none⟩,⟨some 34,.take 1 false (.t 33),none⟩,⟨some 35,.len false (.t 34),none⟩,⟨some 36,.mv (.v (.int .i64 0)),none⟩]
def r6 : List AO := [⟨some 37,.bin .lss (.t 36) (.t 35),none⟩]
def r7 : List AO := [⟨some 38,.mv (.t 36),none⟩,⟨some 39,.iadr 5 (.t 34) (.t 36),none⟩,⟨some 40,.load 5 true (.t 39),none⟩,⟨some 6,.alloc [.av (.int .i64 0),.av (.str []),.av (.str []),.own 5 [],.own 1 []],none⟩,⟨some 5,.asg (.t 38),none⟩,⟨none,.store 5 (.t 6) (.t 40),none⟩]
def r8 : List AO := [⟨some 41,.take 5 true (.t 6),none⟩,⟨some 42,.fadr 0 (.t 3),none⟩,⟨some 43,.load 9 true (.t 42),none⟩,⟨some 44,.call .deep (.v (.clo F.member_look [] [])) [.t 41,.t 43],none⟩,⟨some 7,.asg (.t 44),none⟩]
def r9 : List AO := [⟨some 45,.mv (.t 7),none⟩,⟨some 46,.isnil .ifc true (.t 45),none⟩]
def r10 : List AO := [⟨some 47,.mv (.t 5),none⟩,⟨some 48,.call .deep (.v (.clo F.tens_Of [] [])) [.t 47],none⟩,⟨some 49,.build [.av (.int .i64 0),.av (.str []),.av (.str []),.own 5 [],.own 1 []] [(0,1,.v (.int .i64 3)),(1,1,.t 48)],none⟩,⟨some 50,.mv (.t 7),none⟩,⟨some 51,.build [.av (.int .i64 0),.av (.int .i64 0),.av (.str []),.av (.str []),.own 5 [],.own 1 [],.av .nili] [(1,5,.t 49),(6,1,.t 50)],none⟩,⟨some 52,.box (.t 51),none⟩,⟨some 53,.mki 1 (.t 52),none⟩,⟨some 4,.asg (.t 53),none⟩]
def r11 : List AO := [⟨some 54,.bin .add (.t 36) (.v (.int .i64 1)),none⟩,⟨some 36,.mv (.t 54),none⟩]
def l1 : AC := .seq (.reg r6 [3,34,35,36,37]) (.seq (.cond (.t 37) (.skip) (.exit 1)) (.seq (.block 2 (.seq (.reg r7 [3,5,6,34,35,36]) (.seq (.reg r8 [3,5,7,34,35,36]) (.seq (.reg r9 [3,5,7,34,35,36,46]) (.cond (.t 46) (.seq (.reg r10 [4]) (.ret)) (.skip)))))) (.reg r11 [3,34,35,36])))
def r12 : List AO := [⟨some 4,.asg (.v .nili),none⟩]
def body : AC := .seq (.reg r0 [2,3]) (.seq (.block 0 (.seq (.reg r1 [2,3,8]) (.cond (.t 8) (.seq (.reg r2 [4]) (.ret)) (.seq (.reg r3 [2,3,18]) (.cond (.t 18) (.seq (.reg r4 [4]) (.ret)) (.skip)))))) (.seq (.seq (.reg r5 [3,34,35,36]) (.block 1 (.loop [3,34,35,36] l1))) (.seq (.reg r12 [4]) (.ret))))
def fn : AFun := ⟨[.val,.val],55,[.tmp 4],[],body⟩
end member_lookArray
namespace member_lookObject
def r0 : List AO := [⟨some 2,.box (.t 0),none⟩,⟨some 4,.asg (.v .nili),none⟩]
def r1 : List AO := [⟨some 7,.mv (.t 1),none⟩,⟨some 8,.len false (.t 7),none⟩,⟨some 9,.bin .eql (.t 8) (.v (.int .i64 1)),none⟩]
def r2 : List Ph := [.bag false [] [1,10,13] [(0,⟨some 10,.load 5 true (.t 2),none⟩),(1,⟨some 11,.mv (.t 1),none⟩),(2,⟨some 12,.iadr 12 (.t 11) (.v (.int .i64 0)),none⟩),(3,⟨some 13,.load 12 true (.t 12),none⟩),(4,⟨some 14,.call .deep (.v (.clo F.member_lookFields [] [])) [.t 10,.t 13],none⟩),(5,⟨some 4,.asg (.t 14),none⟩)]]
def r3 : List AO := [⟨some 15,.mv (.t 1),none⟩,⟨some 16,.len false (.t 15),none⟩,⟨some 17,.mv (.v (.int .i64 0)),none⟩]
def r4 : List AO := [⟨some 18,.bin .lss (.t 17) (.t 16),none⟩]
def r5 : List AO := [⟨some 19,.iadr 12 (.t 15) (.t 17),none⟩,⟨some 20,.load 12 true (.t 19),none⟩,⟨some 6,.alloc [.own 1 [],.own 9 [],.own 1 [],.av (.bool false),.av (.bool false),.av (.bool false),.av (.bool false),.own 2 [],.av (.bool false),.own 1 [],.own 11 [],.own 12 []],none⟩,⟨none,.store 12 (.t 6) (.t 20),none⟩]
def r6 : List AO := [⟨some 21,.load 5 true (.t 2),none⟩,⟨some 22,.take 12 true (.t 6),none⟩,⟨some 23,.call .deep (.v (.clo F.member_lookFields [] [])) [.t 21,.t 22],none⟩,⟨some 24,.isnil .ifc false (.t 23),none⟩]
def r7 : List AO := [⟨some 4,.asg (.v .nili),none⟩]
def r8 : List AO := [⟨some 25,.bin .add (.t 17) (.v (.int .i64 1)),none⟩,⟨some 17,.mv (.t 25),none⟩]
def l1 : AC := .seq (.reg r4 [2,15,16,17,18]) (.seq (.cond (.t 18) (.skip) (.exit 0)) (.seq (.block 1 (.seq (.reg r5 [2,6,15,16,17]) (.seq (.reg r6 [2,15,16,17,24]) (.cond (.t 24) (.seq (.reg r7 [4]) (.ret)) (.skip))))) (.reg r8 [2,15,16,17])))
def r9 : List AO := [⟨some 26,.build [.av (.int .i64 0),.av (.int .i64 0),.av (.str []),.av (.str []),.own 5 [],.own 1 [],.av .nili] [(0,1,.v (.int .i64 7))],none⟩,⟨some 27,.box (.t 26),none⟩,⟨some 28,.mki 1 (.t 27),none⟩,⟨some 4,.asg (.t 28),none⟩]
def body : AC := .seq (.reg r0 [1,2]) (.seq (.seq (.reg r1 [1,2,9]) (.cond (.t 9) (.seq (.dreg r2 [4]) (.ret)) (.skip))) (.seq (.seq (.reg r3 [2,15,16,17]) (.block 0 (.loop [2,15,16,17] l1))) (.seq (.reg r9 [4]) (.ret))))
def fn : AFun := ⟨[.val,.val],29,[.tmp 4],[],body⟩
end member_lookObject
namespace tens_Of
def r0 : List AO := [⟨some 2,.asg (.v (.str [])),none⟩]
def r1 : List AO := [⟨some 3,.mv (.t 0),none⟩,⟨some 4,.call .deep (.v (.clo F.strconv_Itoa [] [])) [.t 3],none⟩,⟨some 2,.asg (.t 4),none⟩]
def body : AC := .seq (.reg r0 [0]) (.seq (.reg r1 [2]) (.ret))
def fn : AFun := ⟨[.val],5,[.tmp 2],[],body⟩
end tens_Of
namespace member_lookFields
def r0 : List AO := [⟨some 2,.box (.t 0),none⟩,⟨some 3,.box (.t 1),none⟩,⟨some 4,.asg (.v .nili),none⟩]
def r1 : List AO := [⟨some 15,.fadr 0 (.t 3),none⟩,⟨some 16,.load 1 false (.t 15),none⟩,⟨some 17,.len false (.t 16),none⟩,⟨some 18,.mv (.v (.int .i64 0)),none⟩]
def r2 : List AO := [⟨some 19,.bin .lss (.t 18) (.t 17),none⟩]
def r3 : List AO := [⟨some 20,.mv (.t 18),none⟩,⟨some 21,.iadr 1 (.t 16) (.t 18),none⟩,⟨some 22,.load 1 false (.t 21),none⟩,⟨some 5,.asg (.t 20),none⟩,⟨some 6,.asg (.t 22),none⟩]
def r4 : List AO := [⟨some 24,.load 5 true (.t 2),none⟩,⟨some 25,.mv (.t 6),none⟩,⟨some 26,.call .deep (.v (.clo F.value_Get [] [])) [.t 24,.t 25],none⟩,⟨some 23,.mv (.t 26),none⟩,⟨some 27,.ext (.t 23) 0,none⟩,⟨some 28,.ext (.t 23) 1,none⟩,⟨some 7,.alloc [.av (.int .i64 0),.av (.str []),.av (.str []),.own 5 [],.own 1 []],none⟩,⟨none,.store 5 (.t 7) (.t 27),none⟩,⟨some 8,.asg (.t 28),none⟩]
def r5 : List AO := [⟨some 29,.fadr 2 (.t 3),none⟩,⟨some 30,.load 1 false (.t 29),none⟩,⟨some 31,.mv (.t 5),none⟩,⟨some 32,.iadr 1 (.t 30) (.t 31),none⟩,⟨some 33,.load 1 false (.t 32),none⟩,⟨some 34,.mv (.t 33),none⟩,⟨some 35,.mv (.t 8),some (34,true)⟩,⟨some 36,.un .not (.t 35),some (34,true)⟩,⟨some 37,.pick (.t 34) (.t 36) (.v (.bool false)),none⟩]
def r6 : List AO := [⟨some 38,.mv (.t 6),none⟩,⟨some 39,.build [.av (.int .i64 0),.av (.str []),.av (.str []),.own 5 [],.own 1 []] [(0,1,.v (.int .i64 4)),(2,1,.t 38)],none⟩,⟨some 40,.build [.av (.int .i64 0),.av (.int .i64 0),.av (.str []),.av (.str []),.own 5 [],.own 1 [],.av .nili] [(0,1,.v (.int .i64 6)),(1,5,.t 39)],none⟩,⟨some 41,.box (.t 40),none⟩,⟨some 42,.mki 1 (.t 41),none⟩,⟨some 4,.asg (.t 42),none⟩]
def r7 : List AO := [⟨some 43,.bin .add (.t 18) (.v (.int .i64 1)),none⟩,⟨some 18,.mv (.t 43),none⟩]
def l1 : AC := .seq (.reg r2 [2,3,16,17,18,19]) (.seq (.cond (.t 19) (.skip) (.exit 0)) (.seq (.block 1 (.seq (.reg r3 [2,3,5,6,16,17,18]) (.seq (.reg r4 [2,3,5,6,8,16,17,18]) (.seq (.reg r5 [2,3,6,16,17,18,37]) (.cond (.t 37) (.seq (.reg r6 [4]) (.ret)) (.skip)))))) (.reg r7 [2,3,16,17,18])))
def r8 : List AO := [⟨some 44,.fadr 4 (.t 2),none⟩,⟨some 45,.load 1 false (.t 44),none⟩,⟨some 46,.len false (.t 45),none⟩,⟨some 47,.mv (.v (.int .i64 0)),none⟩]
def r9 : List AO := [⟨some 48,.bin .lss (.t 47) (.t 46),none⟩]
def r10 : List AO := [⟨some 49,.mv (.t 47),none⟩,⟨some 50,.iadr 1 (.t 45) (.t 47),none⟩,⟨some 51,.load 1 false (.t 50),none⟩,⟨some 9,.asg (.t 49),none⟩,⟨some 10,.asg (.t 51),none⟩]
def r11 : List AO := [⟨some 52,.fadr 3 (.t 3),none⟩,⟨some 53,.load 9 true (.t 52),none⟩,⟨some 11,.alloc [.av (.bool false),.av (.bool false),.av (.bool false),.av (.bool false),.own 2 [],.av (.bool false),.own 1 [],.own 11 [],.own 12 []],none⟩,⟨none,.store 9 (.t 11) (.t 53),none⟩]
def r12 : List AO := [⟨some 55,.fadr 0 (.t 3),none⟩,⟨some 56,.load 1 false (.t 55),none⟩,⟨some 57,.mv (.t 10),none⟩,⟨some 58,.call .deep (.v (.clo F.slices_BinarySearch_Ls [] [])) [.t 56,.t 57],none⟩,⟨some 54,.mv (.t 58),none⟩,⟨some 59,.ext (.t 54) 0,none⟩,⟨some 60,.ext (.t 54) 1,none⟩,⟨some 12,.asg (.t 59),none⟩,⟨some 13,.asg (.t 60),none⟩]
def r13 : List AO := [⟨some 61,.mv (.t 13),none⟩]
def r14 : List AO := [⟨some 62,.fadr 1 (.t 3),none⟩,⟨some 63,.load 1 false (.t 62),none⟩,⟨some 64,.mv (.t 12),none⟩,⟨some 65,.iadr 9 (.t 63) (.t 64),none⟩,⟨some 66,.load 9 true (.t 65),none⟩,⟨none,.store 9 (.t 11) (.t 66),none⟩]
def r15 : List Ph := [.bag false [] [9,71,72] [(0,⟨some 67,.fadr 3 (.t 2),none⟩),(1,⟨some 68,.load 1 false (.t 67),none⟩),(2,⟨some 69,.mv (.t 9),none⟩),(3,⟨some 70,.iadr 5 (.t 68) (.t 69),none⟩),(4,⟨some 71,.load 5 true (.t 70),none⟩),(5,⟨some 72,.load 9 true (.t 11),none⟩),(6,⟨some 73,.call .deep (.v (.clo F.member_look [] [])) [.t 71,.t 72],none⟩),(7,⟨some 14,.asg (.t 73),none⟩)]]
def r16 : List AO := [⟨some 74,.mv (.t 14),none⟩,⟨some 75,.isnil .ifc true (.t 74),none⟩]
def r17 : List AO := [⟨some 76,.mv (.t 10),none⟩,⟨some 77,.build [.av (.int .i64 0),.av (.str []),.av (.str []),.own 5 [],.own 1 []] [(0,1,.v (.int .i64 4)),(2,1,.t 76)],none⟩,⟨some 78,.mv (.t 14),none⟩,⟨some 79,.build [.av (.int .i64 0),.av (.int .i64 0),.av (.str []),.av (.str []),.own 5 [],.own 1 [],.av .nili] [(1,5,.t 77),(6,1,.t 78)],none⟩,⟨some 80,.box (.t 79),none⟩,⟨some 81,.mki 1 (.t 80),none⟩,⟨some 4,.asg (.t 81),none⟩]
def r18 : List AO := [⟨some 82,.bin .add (.t 47) (.v (.int .i64 1)),none⟩,⟨some 47,.mv (.t 82),none⟩]
def l2 : AC := .seq (.reg r9 [2,3,45,46,47,48]) (.seq (.cond (.t 48) (.skip) (.exit 2)) (.seq (.block 3 (.seq (.reg r10 [2,3,9,10,45,46,47]) (.seq (.reg r11 [2,3,9,10,11,45,46,47]) (.seq (.seq (.reg r12 [2,3,9,10,11,12,13,45,46,47]) (.seq (.reg r13 [2,3,9,10,11,12,45,46,47,61]) (.cond (.t 61) (.reg r14 [2,3,9,10,11,45,46,47]) (.skip)))) (.seq (.dreg r15 [2,3,10,14,45,46,47]) (.seq (.reg r16 [2,3,10,14,45,46,47,75]) (.cond (.t 75) (.seq (.reg r17 [4]) (.ret)) (.skip)))))))) (.reg r18 [2,3,45,46,47])))
def r19 : List AO := [⟨some 4,.asg (.v .nili),none⟩]
def body : AC := .seq (.reg r0 [2,3]) (.seq (.seq (.reg r1 [2,3,16,17,18]) (.block 0 (.loop [2,3,16,17,18] l1))) (.seq (.seq (.reg r8 [2,3,45,46,47]) (.block 2 (.loop [2,3,45,46,47] l2))) (.seq (.reg r19 [4]) (.ret))))
def fn : AFun := ⟨[.val,.val],83,[.tmp 4],[],body⟩
end member_lookFields
namespace l10_MemberAgrees
def r0 : List AO := [⟨some 2,.box (.t 0),none⟩,⟨some 3,.box (.t 1),none⟩,⟨some 4,.asg (.v (.bool false)),none⟩]
def r1 : List AO := [⟨some 15,.call .deep (.v (.clo F.l10_MemberKnown [] [])) [],none⟩,⟨some 16,.un .not (.t 15),none⟩]
def r2 : List AO := [⟨some 4,.asg (.v (.bool false)),none⟩]
def r3 : List AO := [⟨some 17,.load 5 true (.t 2),none⟩,⟨some 18,.call .deep (.v (.clo F.h03_Formed [] [])) [.t 17],none⟩,⟨some 19,.un .not (.t 18),none⟩,⟨some 20,.mv (.t 19),none⟩,⟨some 21,.load 9 true (.t 3),some (20,false)⟩,⟨some 22,.call .deep (.v (.clo F.h09_Formed [] [])) [.t 21],some (20,false)⟩,⟨some 23,.un .not (.t 22),some (20,false)⟩,⟨some 24,.pick (.t 20) (.v (.bool true)) (.t 23),none⟩,⟨some 25,.mv (.t 24),none⟩,⟨some 26,.load 5 true (.t 2),some (25,false)⟩,⟨some 27,.buildS 1 5 [.av (.int .i64 0),.av (.str []),.av (.str []),.own 5 [],.own 1 []] [(0,5,.t 26)],some (25,false)⟩,⟨some 28,.call .deep (.v (.clo F.hk_Fit [] [])) [.t 27],some (25,false)⟩,⟨some 29,.un .not (.t 28),some (25,false)⟩,⟨some 30,.pick (.t 25) (.v (.bool true)) (.t 29),none⟩]
def r4 : List AO := [⟨some 4,.asg (.v (.bool true)),none⟩]
def r5 : List AO := [⟨some 32,.load 5 true (.t 2),none⟩,⟨some 33,.load 9 true (.t 3),none⟩,⟨some 34,.call .deep (.v (.clo F.member_In [] [])) [.t 32,.t 33],none⟩,⟨some 31,.mv (.t 34),none⟩,⟨some 35,.ext (.t 31) 0,none⟩,⟨some 36,.ext (.t 31) 1,none⟩,⟨some 5,.asg (.t 35),none⟩,⟨some 6,.asg (.t 36),none⟩]
def r6 : List AO := [⟨some 38,.load 5 true (.t 2),none⟩,⟨some 39,.take 9 true (.t 3),none⟩,⟨some 40,.call .deep (.v (.clo F.member_Why [] [])) [.t 38,.t 39],none⟩,⟨some 37,.mv (.t 40),none⟩,⟨some 41,.ext (.t 37) 0,none⟩,⟨some 42,.ext (.t 37) 1,none⟩,⟨some 43,.ext (.t 37) 2,none⟩,⟨some 7,.asgo (.t 41),none⟩,⟨some 8,.asg (.t 42),none⟩,⟨some 9,.asg (.t 43),none⟩]
def r7 : List AO := [⟨some 44,.mv (.t 6),none⟩,⟨some 45,.bin .neq (.t 44) (.v (.int .i64 0)),none⟩,⟨some 46,.mv (.t 45),none⟩,⟨some 47,.mv (.t 9),some (46,false)⟩,⟨some 48,.bin .neq (.t 47) (.v (.int .i64 0)),some (46,false)⟩,⟨some 49,.pick (.t 46) (.v (.bool true)) (.t 48),none⟩,⟨some 50,.mv (.t 49),none⟩,⟨some 51,.mv (.t 5),some (50,false)⟩,⟨some 52,.mv (.t 8),some (50,false)⟩,⟨some 53,.bin .eql (.t 52) (.v (.int .i64 0)),some (50,false)⟩,⟨some 54,.binB true (.t 51) (.t 53),some (50,false)⟩,⟨some 55,.pick (.t 50) (.v (.bool true)) (.t 54),none⟩,⟨some 56,.mv (.t 55),none⟩,⟨some 57,.mv (.t 8),some (56,false)⟩,⟨some 58,.bin .lss (.t 57) (.v (.int .i64 0)),some (56,false)⟩,⟨some 59,.pick (.t 56) (.v (.bool true)) (.t 58),none⟩,⟨some 60,.mv (.t 59),none⟩,⟨some 61,.mv (.t 8),some (60,false)⟩,⟨some 62,.bin .gtr (.t 61) (.v (.int .i64 7)),some (60,false)⟩,⟨some 63,.pick (.t 60) (.v (.bool true)) (.t 62),none⟩]
def r8 : List AO := [⟨some 4,.asg (.v (.bool false)),none⟩]
def r9 : List AO := [⟨some 64,.mv (.t 8),none⟩,⟨some 65,.bin .eql (.t 64) (.v (.int .i64 0)),none⟩]
def r10 : List AO := [⟨some 66,.mvt 7,none⟩,⟨some 67,.len false (.t 66),none⟩,⟨some 68,.bin .eql (.t 67) (.v (.int .i64 0)),none⟩,⟨some 4,.asg (.t 68),none⟩]
def r11 : List AO := [⟨some 69,.mvr 7,none⟩,⟨some 70,.len false (.t 69),none⟩,⟨some 10,.asg (.t 70),none⟩]
def r12 : List AO := [⟨some 71,.mv (.t 8),none⟩,⟨some 72,.bin .eql (.t 71) (.v (.int .i64 6)),none⟩]
def r13 : List AO := [⟨some 73,.mv (.t 10),none⟩,⟨some 74,.bin .sub (.t 73) (.v (.int .i64 1)),none⟩,⟨some 10,.asg (.t 74),none⟩]
def r14 : List AO := [⟨some 75,.mv (.t 10),none⟩,⟨some 76,.bin .lss (.t 75) (.v (.int .i64 0)),none⟩]
def r15 : List AO := [⟨some 4,.asg (.v (.bool false)),none⟩]
def r16 : List AO := [⟨some 77,.take 5 true (.t 2),none⟩,⟨some 11,.alloc [.av (.int .i64 0),.av (.str []),.av (.str []),.own 5 [],.own 1 []],none⟩,⟨none,.store 5 (.t 11) (.t 77),none⟩]
def r17 : List AO := [⟨some 12,.asg (.v (.int .i64 0)),none⟩]
def r18 : List AO := [⟨some 78,.mv (.t 12),none⟩,⟨some 79,.mv (.t 10),none⟩,⟨some 80,.bin .lss (.t 78) (.t 79),none⟩]
def r20 : List Ph := [.bag false [8] [12,84,88,89] [(0,⟨some 84,.load 5 true (.t 11),none⟩),(1,⟨some 85,.mvr 7,none⟩),(2,⟨some 86,.mv (.t 12),none⟩),(3,⟨some 87,.iadr 5 (.t 85) (.t 86),none⟩),(4,⟨some 88,.load 5 true (.t 87),none⟩),(5,⟨some 89,.call .deep (.v (.clo F.h08_Step [] [])) [.t 84,.t 88],none⟩),(6,⟨some 83,.mv (.t 89),none⟩),(7,⟨some 90,.ext (.t 83) 0,none⟩),(8,⟨some 91,.ext (.t 83) 1,none⟩),(9,⟨some 13,.alloc [.av (.int .i64 0),.av (.str []),.av (.str []),.own 5 [],.own 1 []],none⟩)],.one 10 ⟨none,.store 5 (.t 13) (.t 90),none⟩,.one 11 ⟨some 14,.asg (.t 91),none⟩]
def r21 : List AO := [⟨some 92,.mv (.t 14),none⟩,⟨some 93,.un .not (.t 92),none⟩]
def r22 : List AO := [⟨some 4,.asg (.v (.bool false)),none⟩]
def r23 : List AO := [⟨some 94,.take 5 true (.t 13),none⟩,⟨none,.store 5 (.t 11) (.t 94),none⟩]
def r19 : List AO := [⟨some 81,.mv (.t 12),none⟩,⟨some 82,.bin .add (.t 81) (.v (.int .i64 1)),none⟩,⟨some 12,.asg (.t 82),none⟩]
def l1 : AC := .seq (.seq (.reg r18 [7,8,10,11,12,80]) (.cond (.t 80) (.skip) (.exit 0))) (.seq (.block 1 (.seq (.dreg r20 [7,8,10,11,12,13,14]) (.seq (.seq (.reg r21 [7,8,10,11,12,13,93]) (.cond (.t 93) (.seq (.reg r22 [4]) (.ret)) (.skip))) (.reg r23 [7,8,10,11,12])))) (.reg r19 [7,8,10,11,12]))
def r24 : List AO := [⟨some 95,.mv (.t 8),none⟩,⟨some 96,.bin .eql (.t 95) (.v (.int .i64 6)),none⟩]
def r25 : List Ph := [.bag false [] [110] [(0,⟨some 97,.fadr 0 (.t 11),none⟩),(1,⟨some 98,.load 1 false (.t 97),none⟩),(2,⟨some 99,.bin .eql (.t 98) (.v (.int .i64 6)),none⟩),(3,⟨some 100,.mv (.t 99),none⟩),(4,⟨some 101,.mvr 7,some (100,true)⟩),(5,⟨some 102,.mv (.t 10),some (100,true)⟩),(6,⟨some 103,.iadr 5 (.t 101) (.t 102),some (100,true)⟩),(7,⟨some 104,.fadr 0 (.t 103),some (100,true)⟩),(8,⟨some 105,.load 1 false (.t 104),some (100,true)⟩),(9,⟨some 106,.bin .eql (.t 105) (.v (.int .i64 4)),some (100,true)⟩),(10,⟨some 107,.pick (.t 100) (.t 106) (.v (.bool false)),none⟩),(11,⟨some 108,.mv (.t 107),none⟩),(12,⟨some 109,.fadr 4 (.t 11),some (108,true)⟩),(13,⟨some 110,.load 1 false (.t 109),some (108,true)⟩),(14,⟨some 111,.mvr 7,some (108,true)⟩),(15,⟨some 112,.mv (.t 10),some (108,true)⟩),(16,⟨some 113,.iadr 5 (.t 111) (.t 112),some (108,true)⟩),(17,⟨some 114,.fadr 2 (.t 113),some (108,true)⟩),(18,⟨some 115,.load 1 false (.t 114),some (108,true)⟩),(19,⟨some 116,.call .deep (.v (.clo F.h09_Has [] [])) [.t 110,.t 115],some (108,true)⟩),(20,⟨some 117,.un .not (.t 116),some (108,true)⟩),(21,⟨some 118,.pick (.t 108) (.t 117) (.v (.bool false)),none⟩),(22,⟨some 4,.asg (.t 118),none⟩)]]
def r26 : List AO := [⟨some 4,.asg (.v (.bool true)),none⟩]
def body : AC := .seq (.reg r0 [2,3]) (.seq (.seq (.reg r1 [2,3,16]) (.cond (.t 16) (.seq (.reg r2 [4]) (.ret)) (.skip))) (.seq (.seq (.reg r3 [2,3,30]) (.cond (.t 30) (.seq (.reg r4 [4]) (.ret)) (.skip))) (.seq (.reg r5 [2,3,5,6]) (.seq (.reg r6 [2,5,6,7,8,9]) (.seq (.seq (.reg r7 [2,7,8,63]) (.cond (.t 63) (.seq (.reg r8 [4]) (.ret)) (.skip))) (.seq (.seq (.reg r9 [2,7,8,65]) (.cond (.t 65) (.seq (.reg r10 [4]) (.ret)) (.skip))) (.seq (.reg r11 [2,7,8,10]) (.seq (.seq (.reg r12 [2,7,8,10,72]) (.cond (.t 72) (.reg r13 [2,7,8,10]) (.skip))) (.seq (.seq (.reg r14 [2,7,8,10,76]) (.cond (.t 76) (.seq (.reg r15 [4]) (.ret)) (.skip))) (.seq (.reg r16 [7,8,10,11]) (.seq (.seq (.reg r17 [7,8,10,11,12]) (.block 0 (.loop [7,8,10,11,12] l1))) (.seq (.seq (.reg r24 [7,10,11,96]) (.cond (.t 96) (.seq (.dreg r25 [4]) (.ret)) (.skip))) (.seq (.reg r26 [4]) (.ret))))))))))))))
def fn : AFun := ⟨[.val,.val],119,[.tmp 4],[7],body⟩
end l10_MemberAgrees
namespace h08_Step
def r0 : List AO := [⟨some 2,.box (.t 0),none⟩,⟨some 3,.box (.t 1),none⟩,⟨some 4,.alloc [.av (.int .i64 0),.av (.str []),.av (.str []),.own 5 [],.own 1 []],none⟩,⟨some 5,.asg (.v (.bool false)),none⟩]
def r1 : List AO := [⟨some 7,.load 5 true (.t 2),none⟩,⟨some 8,.load 5 true (.t 3),none⟩,⟨some 9,.call .deep (.v (.clo F.h08_Fits [] [])) [.t 7,.t 8],none⟩,⟨some 10,.un .not (.t 9),none⟩]
def r2 : List AO := [⟨some 11,.build [.av (.int .i64 0),.av (.str []),.av (.str []),.own 5 [],.own 1 []] [],none⟩,⟨none,.store 5 (.t 4) (.t 11),none⟩,⟨some 5,.asg (.v (.bool false)),none⟩]
def r3 : List AO := [⟨some 12,.load 5 true (.t 2),none⟩,⟨some 13,.take 5 true (.t 3),none⟩,⟨some 14,.call .deep (.v (.clo F.h08_Find [] [])) [.t 12,.t 13],none⟩,⟨some 6,.asg (.t 14),none⟩]
def r4 : List AO := [⟨some 15,.mv (.t 6),none⟩,⟨some 16,.bin .lss (.t 15) (.v (.int .i64 0)),none⟩,⟨some 17,.mv (.t 16),none⟩,⟨some 18,.mv (.t 6),some (17,false)⟩,⟨some 19,.fadr 3 (.t 2),some (17,false)⟩,⟨some 20,.load 1 false (.t 19),some (17,false)⟩,⟨some 21,.len false (.t 20),some (17,false)⟩,⟨some 22,.bin .geq (.t 18) (.t 21),some (17,false)⟩,⟨some 23,.pick (.t 17) (.v (.bool true)) (.t 22),none⟩]
def r5 : List AO := [⟨some 24,.build [.av (.int .i64 0),.av (.str []),.av (.str []),.own 5 [],.own 1 []] [],none⟩,⟨none,.store 5 (.t 4) (.t 24),none⟩,⟨some 5,.asg (.v (.bool true)),none⟩]
def r6 : List AO := [⟨some 25,.fadr 3 (.t 2),none⟩,⟨some 26,.take 1 false (.t 25),none⟩,⟨some 27,.mv (.t 6),none⟩,⟨some 28,.iadr 5 (.t 26) (.t 27),none⟩,⟨some 29,.load 5 true (.t 28),none⟩,⟨none,.store 5 (.t 4) (.t 29),none⟩,⟨some 5,.asg (.v (.bool true)),none⟩]
def body : AC := .seq (.reg r0 [2,3,4]) (.seq (.seq (.reg r1 [2,3,4,10]) (.cond (.t 10) (.seq (.reg r2 [4,5]) (.ret)) (.skip))) (.seq (.reg r3 [2,4,6]) (.seq (.seq (.reg r4 [2,4,6,23]) (.cond (.t 23) (.seq (.reg r5 [4,5]) (.ret)) (.skip))) (.seq (.reg r6 [4,5]) (.ret)))))
def fn : AFun := ⟨[.val,.val],30,[.cell 4 5 true,.tmp 5],[],body⟩
end h08_Step
namespace h08_Fits
def r0 : List AO := [⟨some 2,.box (.t 0),none⟩,⟨some 3,.box (.t 1),none⟩,⟨some 4,.asg (.v (.bool false)),none⟩]
def r1 : List AO := [⟨some 5,.load 5 true (.t 3),none⟩,⟨some 6,.call .deep (.v (.clo F.h08_IsKey [] [])) [.t 5],none⟩,⟨some 7,.un .not (.t 6),none⟩]
def r2 : List AO := [⟨some 4,.asg (.v (.bool false)),none⟩]
def r3 : List AO := [⟨some 8,.fadr 0 (.t 2),none⟩,⟨some 9,.load 1 false (.t 8),none⟩,⟨some 10,.bin .eql (.t 9) (.v (.int .i64 0)),none⟩,⟨some 11,.mv (.t 10),none⟩,⟨some 12,.fadr 0 (.t 2),some (11,false)⟩,⟨some 13,.load 1 false (.t 12),some (11,false)⟩,⟨some 14,.bin .eql (.t 13) (.v (.int .i64 6)),some (11,false)⟩,⟨some 15,.mv (.t 14),some (11,false)⟩,⟨some 16,.fadr 0 (.t 3),some (15,true)⟩,⟨some 17,.load 1 false (.t 16),some (15,true)⟩,⟨some 18,.bin .eql (.t 17) (.v (.int .i64 4)),some (15,true)⟩,⟨some 19,.pick (.t 15) (.t 18) (.v (.bool false)),some (11,false)⟩,⟨some 20,.pick (.t 11) (.v (.bool true)) (.t 19),none⟩,⟨some 21,.mv (.t 20),none⟩,⟨some 22,.fadr 0 (.t 2),some (21,false)⟩,⟨some 23,.load 1 false (.t 22),some (21,false)⟩,⟨some 24,.bin .eql (.t 23) (.v (.int .i64 5)),some (21,false)⟩,⟨some 25,.mv (.t 24),some (21,false)⟩,⟨some 26,.fadr 0 (.t 3),some (25,true)⟩,⟨some 27,.load 1 false (.t 26),some (25,true)⟩,⟨some 28,.bin .eql (.t 27) (.v (.int .i64 3)),some (25,true)⟩,⟨some 29,.pick (.t 25) (.t 28) (.v (.bool false)),some (21,false)⟩,⟨some 30,.pick (.t 21) (.v (.bool true)) (.t 29),none⟩,⟨some 4,.asg (.t 30),none⟩]
def body : AC := .seq (.reg r0 [2,3]) (.seq (.seq (.reg r1 [2,3,7]) (.cond (.t 7) (.seq (.reg r2 [4]) (.ret)) (.skip))) (.seq (.reg r3 [4]) (.ret)))
def fn : AFun := ⟨[.val,.val],31,[.tmp 4],[],body⟩
end h08_Fits
namespace h08_Find
def r0 : List AO := [⟨some 2,.box (.t 0),none⟩,⟨some 3,.box (.t 1),none⟩,⟨some 4,.asg (.v (.int .i64 0)),none⟩]
def r1 : List AO := [⟨some 7,.fadr 0 (.t 2),none⟩,⟨some 8,.load 1 false (.t 7),none⟩,⟨some 9,.bin .eql (.t 8) (.v (.int .i64 6)),none⟩,⟨some 10,.mv (.t 9),none⟩,⟨some 11,.fadr 0 (.t 3),some (10,true)⟩,⟨some 12,.load 1 false (.t 11),some (10,true)⟩,⟨some 13,.bin .eql (.t 12) (.v (.int .i64 4)),some (10,true)⟩,⟨some 14,.pick (.t 10) (.t 13) (.v (.bool false)),none⟩]
def r2 : List AO := [⟨some 5,.asg (.v (.int .i64 0)),none⟩]
def r3 : List AO := [⟨some 15,.mv (.t 5),none⟩,⟨some 16,.fadr 4 (.t 2),none⟩,⟨some 17,.load 1 false (.t 16),none⟩,⟨some 18,.len false (.t 17),none⟩,⟨some 19,.bin .lss (.t 15) (.t 18),none⟩]
def r5 : List Ph := [.bag false [] [5] [(0,⟨some 22,.fadr 4 (.t 2),none⟩),(1,⟨some 23,.load 1 false (.t 22),none⟩),(2,⟨some 24,.mv (.t 5),none⟩),(3,⟨some 25,.iadr 1 (.t 23) (.t 24),none⟩),(4,⟨some 26,.load 1 false (.t 25),none⟩),(5,⟨some 27,.fadr 2 (.t 3),none⟩),(6,⟨some 28,.load 1 false (.t 27),none⟩),(7,⟨some 29,.bin .eql (.t 26) (.t 28),none⟩)]]
def r6 : List AO := [⟨some 30,.mv (.t 5),none⟩,⟨some 4,.asg (.t 30),none⟩]
def r4 : List AO := [⟨some 20,.mv (.t 5),none⟩,⟨some 21,.bin .add (.t 20) (.v (.int .i64 1)),none⟩,⟨some 5,.asg (.t 21),none⟩]
def l1 : AC := .seq (.seq (.reg r3 [2,3,5,19]) (.cond (.t 19) (.skip) (.exit 0))) (.seq (.block 1 (.seq (.dreg r5 [2,3,5,29]) (.cond (.t 29) (.seq (.reg r6 [4]) (.ret)) (.skip)))) (.reg r4 [2,3,5]))
def r7 : List AO := [⟨some 31,.fadr 0 (.t 2),none⟩,⟨some 32,.load 1 false (.t 31),none⟩,⟨some 33,.bin .eql (.t 32) (.v (.int .i64 5)),none⟩,⟨some 34,.mv (.t 33),none⟩,⟨some 35,.fadr 0 (.t 3),some (34,true)⟩,⟨some 36,.load 1 false (.t 35),some (34,true)⟩,⟨some 37,.bin .eql (.t 36) (.v (.int .i64 3)),some (34,true)⟩,⟨some 38,.pick (.t 34) (.t 37) (.v (.bool false)),none⟩]
def r8 : List AO := [⟨some 39,.fadr 1 (.t 3),none⟩,⟨some 40,.load 1 false (.t 39),none⟩,⟨some 41,.fadr 3 (.t 2),none⟩,⟨some 42,.load 1 false (.t 41),none⟩,⟨some 43,.len false (.t 42),none⟩,⟨some 44,.call .deep (.v (.clo F.h08_Place [] [])) [.t 40,.t 43],none⟩,⟨some 6,.asg (.t 44),none⟩]
def r9 : List AO := [⟨some 45,.mv (.t 6),none⟩,⟨some 46,.bin .geq (.t 45) (.v (.int .i64 0)),none⟩,⟨some 47,.mv (.t 46),none⟩,⟨some 48,.mv (.t 6),some (47,true)⟩,⟨some 49,.fadr 3 (.t 2),some (47,true)⟩,⟨some 50,.take 1 false (.t 49),some (47,true)⟩,⟨some 51,.len false (.t 50),some (47,true)⟩,⟨some 52,.bin .lss (.t 48) (.t 51),some (47,true)⟩,⟨some 53,.pick (.t 47) (.t 52) (.v (.bool false)),none⟩]
def r10 : List AO := [⟨some 54,.mv (.t 6),none⟩,⟨some 4,.asg (.t 54),none⟩]
def r11 : List AO := [⟨some 4,.asg (.v (.int .i64 (-1))),none⟩]
def body : AC := .seq (.reg r0 [2,3]) (.seq (.seq (.reg r1 [2,3,14]) (.cond (.t 14) (.seq (.reg r2 [2,3,5]) (.block 0 (.loop [2,3,5] l1))) (.skip))) (.seq (.seq (.reg r7 [2,3,38]) (.cond (.t 38) (.seq (.reg r8 [2,6]) (.seq (.reg r9 [6,53]) (.cond (.t 53) (.seq (.reg r10 [4]) (.ret)) (.skip)))) (.skip))) (.seq (.reg r11 [4]) (.ret))))
def fn : AFun := ⟨[.val,.val],55,[.tmp 4],[],body⟩
end h08_Find
namespace h08_IsKey
def r0 : List AO := [⟨some 1,.box (.t 0),none⟩,⟨some 2,.asg (.v (.bool false)),none⟩]
def r1 : List AO := [⟨some 3,.fadr 0 (.t 1),none⟩,⟨some 4,.load 1 false (.t 3),none⟩,⟨some 5,.bin .eql (.t 4) (.v (.int .i64 4)),none⟩,⟨some 6,.mv (.t 5),none⟩,⟨some 7,.fadr 0 (.t 1),some (6,false)⟩,⟨some 8,.load 1 false (.t 7),some (6,false)⟩,⟨some 9,.bin .eql (.t 8) (.v (.int .i64 3)),some (6,false)⟩,⟨some 10,.pick (.t 6) (.v (.bool true)) (.t 9),none⟩,⟨some 11,.mv (.t 10),none⟩,⟨some 12,.take 5 true (.t 1),some (11,true)⟩,⟨some 13,.call .deep (.v (.clo F.h08_Right [] [])) [.t 12],some (11,true)⟩,⟨some 14,.pick (.t 11) (.t 13) (.v (.bool false)),none⟩,⟨some 2,.asg (.t 14),none⟩]
def body : AC := .seq (.reg r0 [1]) (.seq (.reg r1 [2]) (.ret))
def fn : AFun := ⟨[.val],15,[.tmp 2],[],body⟩
end h08_IsKey
namespace h08_Place
def r0 : List AO := [⟨some 4,.asg (.v (.int .i64 0)),none⟩]
def r1 : List AO := [⟨some 8,.mv (.t 0),none⟩,⟨some 9,.idxS (.t 8) (.v (.int .i64 0)),none⟩,⟨some 10,.bin .eql (.t 9) (.v (.int .u8 45)),none⟩,⟨some 5,.asg (.t 10),none⟩]
def r2 : List AO := [⟨some 6,.asg (.v (.int .i64 0)),none⟩]
def r3 : List AO := [⟨some 7,.asg (.v (.int .i64 0)),none⟩]
def r4 : List AO := [⟨some 11,.mv (.t 7),none⟩,⟨some 12,.mv (.t 0),none⟩,⟨some 13,.len true (.t 12),none⟩,⟨some 14,.bin .lss (.t 11) (.t 13),none⟩]
def r6 : List AO := [⟨some 17,.mv (.t 0),none⟩,⟨some 18,.mv (.t 7),none⟩,⟨some 19,.idxS (.t 17) (.t 18),none⟩,⟨some 20,.bin .neq (.t 19) (.v (.int .u8 45)),none⟩,⟨some 21,.mv (.t 20),none⟩,⟨some 22,.mv (.t 6),some (21,true)⟩,⟨some 23,.bin .lss (.t 22) (.v (.int .i64 1099511627776)),some (21,true)⟩,⟨some 24,.pick (.t 21) (.t 23) (.v (.bool false)),none⟩]
def r7 : List AO := [⟨some 25,.mv (.t 6),none⟩,⟨some 26,.bin .mul (.v (.int .i64 10)) (.t 25),none⟩,⟨some 27,.mv (.t 0),none⟩,⟨some 28,.mv (.t 7),none⟩,⟨some 29,.idxS (.t 27) (.t 28),none⟩,⟨some 30,.bin .sub (.t 29) (.v (.int .u8 48)),none⟩,⟨some 31,.conv (.int .i64) (.t 30),none⟩,⟨some 32,.bin .add (.t 26) (.t 31),none⟩,⟨some 6,.asg (.t 32),none⟩]
def r5 : List AO := [⟨some 15,.mv (.t 7),none⟩,⟨some 16,.bin .add (.t 15) (.v (.int .i64 1)),none⟩,⟨some 7,.asg (.t 16),none⟩]
def l1 : AC := .seq (.seq (.reg r4 [0,1,5,6,7,14]) (.cond (.t 14) (.skip) (.exit 0))) (.seq (.block 1 (.seq (.reg r6 [0,1,5,6,7,24]) (.cond (.t 24) (.reg r7 [0,1,5,6,7]) (.skip)))) (.reg r5 [0,1,5,6,7]))
def r8 : List AO := [⟨some 33,.mv (.t 5),none⟩]
def r9 : List AO := [⟨some 34,.mv (.t 1),none⟩,⟨some 35,.mv (.t 6),none⟩,⟨some 36,.bin .sub (.t 34) (.t 35),none⟩,⟨some 4,.asg (.t 36),none⟩]
def r10 : List AO := [⟨some 37,.mv (.t 6),none⟩,⟨some 4,.asg (.t 37),none⟩]
def body : AC := .seq (.reg r0 [0,1]) (.seq (.reg r1 [0,1,5]) (.seq (.reg r2 [0,1,5,6]) (.seq (.seq (.reg r3 [0,1,5,6,7]) (.block 0 (.loop [0,1,5,6,7] l1))) (.seq (.seq (.reg r8 [1,6,33]) (.cond (.t 33) (.seq (.reg r9 [4]) (.ret)) (.skip))) (.seq (.reg r10 [4]) (.ret))))))
def fn : AFun := ⟨[.val,.val],38,[.tmp 4],[],body⟩
end h08_Place
namespace h08_Right
def r0 : List AO := [⟨some 1,.box (.t 0),none⟩,⟨some 2,.asg (.v (.bool false)),none⟩]
def r1 : List AO := [⟨some 3,.take 5 true (.t 1),none⟩,⟨some 4,.call .deep (.v (.clo F.h05_Right [] [])) [.t 3,.v (.int .i64 1073741824)],none⟩,⟨some 2,.asg (.t 4),none⟩]
def body : AC := .seq (.reg r0 [1]) (.seq (.reg r1 [2]) (.ret))
def fn : AFun := ⟨[.val],5,[.tmp 2],[],body⟩
end h08_Right
namespace h05_Right
def r0 : List AO := [⟨some 2,.box (.t 0),none⟩,⟨some 4,.asg (.v (.bool false)),none⟩]
def r1 : List AO := [⟨some 8,.fadr 0 (.t 2),none⟩,⟨some 9,.load 1 false (.t 8),none⟩,⟨some 10,.bin .lss (.t 9) (.v (.int .i64 0)),none⟩,⟨some 11,.mv (.t 10),none⟩,⟨some 12,.fadr 0 (.t 2),some (11,false)⟩,⟨some 13,.load 1 false (.t 12),some (11,false)⟩,⟨some 14,.bin .gtr (.t 13) (.v (.int .i64 6)),some (11,false)⟩,⟨some 15,.pick (.t 11) (.v (.bool true)) (.t 14),none⟩,⟨some 16,.mv (.t 15),none⟩,⟨some 17,.fadr 1 (.t 2),some (16,false)⟩,⟨some 18,.load 1 false (.t 17),some (16,false)⟩,⟨some 19,.bin .neq (.t 18) (.v (.str [])),some (16,false)⟩,⟨some 20,.mv (.t 19),some (16,false)⟩,⟨some 21,.fadr 0 (.t 2),some (20,true)⟩,⟨some 22,.load 1 false (.t 21),some (20,true)⟩,⟨some 23,.bin .neq (.t 22) (.v (.int .i64 3)),some (20,true)⟩,⟨some 24,.pick (.t 20) (.t 23) (.v (.bool false)),some (16,false)⟩,⟨some 25,.pick (.t 16) (.v (.bool true)) (.t 24),none⟩,⟨some 26,.mv (.t 25),none⟩,⟨some 27,.fadr 2 (.t 2),some (26,false)⟩,⟨some 28,.load 1 false (.t 27),some (26,false)⟩,⟨some 29,.bin .neq (.t 28) (.v (.str [])),some (26,false)⟩,⟨some 30,.mv (.t 29),some (26,false)⟩,⟨some 31,.fadr 0 (.t 2),some (30,true)⟩,⟨some 32,.load 1 false (.t 31),some (30,true)⟩,⟨some 33,.bin .neq (.t 32) (.v (.int .i64 4)),some (30,true)⟩,⟨some 34,.pick (.t 30) (.t 33) (.v (.bool false)),some (26,false)⟩,⟨some 35,.pick (.t 26) (.v (.bool true)) (.t 34),none⟩]
def r2 : List AO := [⟨some 4,.asg (.v (.bool false)),none⟩]
def r3 : List AO := [⟨some 36,.fadr 0 (.t 2),none⟩,⟨some 37,.load 1 false (.t 36),none⟩,⟨some 38,.bin .eql (.t 37) (.v (.int .i64 3)),none⟩]
def r4 : List AO := [⟨some 39,.build [.av (.int .u8 0),.av (.int .i64 0),.av (.int .i64 0),.av (.str []),.av (.int .i64 0)] [(0,1,.v (.int .u8 0)),(1,1,.v (.int .i64 0)),(2,1,.v (.int .i64 0)),(3,1,.v (.str [])),(4,1,.v (.int .i64 42))],none⟩,⟨some 5,.alloc [.av (.int .u8 0),.av (.int .i64 0),.av (.int .i64 0),.av (.str []),.av (.int .i64 0)],none⟩,⟨none,.store 5 (.t 5) (.t 39),none⟩]
def r5 : List AO := [⟨some 40,.fadr 1 (.t 2),none⟩,⟨some 41,.load 1 false (.t 40),none⟩,⟨some 42,.bin .neq (.t 41) (.v (.str [])),none⟩,⟨some 43,.mv (.t 42),none⟩,⟨some 44,.fadr 1 (.t 2),some (43,true)⟩,⟨some 45,.load 1 false (.t 44),some (43,true)⟩,⟨some 46,.idxS (.t 45) (.v (.int .i64 0)),some (43,true)⟩,⟨some 47,.call .deep (.v (.clo F.h05_isDigit [] [])) [.t 46],some (43,true)⟩,⟨some 48,.mv (.t 47),some (43,true)⟩,⟨some 49,.fadr 1 (.t 2),some (48,false)⟩,⟨some 50,.load 1 false (.t 49),some (48,false)⟩,⟨some 51,.idxS (.t 50) (.v (.int .i64 0)),some (48,false)⟩,⟨some 52,.bin .eql (.t 51) (.v (.int .u8 45)),some (48,false)⟩,⟨some 53,.pick (.t 48) (.v (.bool true)) (.t 52),some (43,true)⟩,⟨some 54,.pick (.t 43) (.t 53) (.v (.bool false)),none⟩]
def r6 : List AO := [⟨some 55,.fadr 1 (.t 2),none⟩,⟨some 56,.load 1 false (.t 55),none⟩,⟨some 57,.call .deep (.v (.clo F.h05_numeral [] [])) [.t 56,.v (.int .i64 0)],none⟩,⟨none,.store 5 (.t 5) (.t 57),none⟩]
def r7 : List AO := [⟨some 58,.fadr 4 (.t 5),none⟩,⟨some 59,.load 1 false (.t 58),none⟩,⟨some 60,.bin .neq (.t 59) (.v (.int .i64 0)),none⟩,⟨some 61,.mv (.t 60),none⟩,⟨some 62,.fadr 2 (.t 5),some (61,false)⟩,⟨some 63,.load 1 false (.t 62),some (61,false)⟩,⟨some 64,.fadr 1 (.t 2),some (61,false)⟩,⟨some 65,.load 1 false (.t 64),some (61,false)⟩,⟨some 66,.len true (.t 65),some (61,false)⟩,⟨some 67,.bin .neq (.t 63) (.t 66),some (61,false)⟩,⟨some 68,.pick (.t 61) (.v (.bool true)) (.t 67),none⟩,⟨some 69,.mv (.t 68),none⟩,⟨some 70,.fadr 3 (.t 5),some (69,false)⟩,⟨some 71,.load 1 false (.t 70),some (69,false)⟩,⟨some 72,.fadr 1 (.t 2),some (69,false)⟩,⟨some 73,.load 1 false (.t 72),some (69,false)⟩,⟨some 74,.bin .neq (.t 71) (.t 73),some (69,false)⟩,⟨some 75,.pick (.t 69) (.v (.bool true)) (.t 74),none⟩]
def r8 : List AO := [⟨some 4,.asg (.v (.bool false)),none⟩]
def r9 : List AO := [⟨some 76,.fadr 2 (.t 2),none⟩,⟨some 77,.load 1 false (.t 76),none⟩,⟨some 78,.call .deep (.v (.clo F.h02_Valid [] [])) [.t 77],none⟩,⟨some 79,.un .not (.t 78),none⟩,⟨some 80,.mv (.t 79),none⟩,⟨some 81,.fadr 3 (.t 2),some (80,false)⟩,⟨some 82,.load 1 false (.t 81),some (80,false)⟩,⟨some 83,.len false (.t 82),some (80,false)⟩,⟨some 84,.bin .gtr (.t 83) (.v (.int .i64 0)),some (80,false)⟩,⟨some 85,.mv (.t 84),some (80,false)⟩,⟨some 86,.fadr 0 (.t 2),some (85,true)⟩,⟨some 87,.load 1 false (.t 86),some (85,true)⟩,⟨some 88,.bin .lss (.t 87) (.v (.int .i64 5)),some (85,true)⟩,⟨some 89,.mv (.t 88),some (85,true)⟩,⟨some 90,.mv (.t 1),some (89,false)⟩,⟨some 91,.bin .lss (.t 90) (.v (.int .i64 1)),some (89,false)⟩,⟨some 92,.pick (.t 89) (.v (.bool true)) (.t 91),some (85,true)⟩,⟨some 93,.pick (.t 85) (.t 92) (.v (.bool false)),some (80,false)⟩,⟨some 94,.pick (.t 80) (.v (.bool true)) (.t 93),none⟩,⟨some 95,.mv (.t 94),none⟩,⟨some 96,.fadr 0 (.t 2),some (95,false)⟩,⟨some 97,.load 1 false (.t 96),some (95,false)⟩,⟨some 98,.bin .geq (.t 97) (.v (.int .i64 5)),some (95,false)⟩,⟨some 99,.mv (.t 98),some (95,false)⟩,⟨some 100,.mv (.t 1),some (99,true)⟩,⟨some 101,.bin .lss (.t 100) (.v (.int .i64 1)),some (99,true)⟩,⟨some 102,.pick (.t 99) (.t 101) (.v (.bool false)),some (95,false)⟩,⟨some 103,.pick (.t 95) (.v (.bool true)) (.t 102),none⟩]
def r10 : List AO := [⟨some 4,.asg (.v (.bool false)),none⟩]
def r11 : List AO := [⟨some 104,.fadr 0 (.t 2),none⟩,⟨some 105,.load 1 false (.t 104),none⟩,⟨some 106,.bin .eql (.t 105) (.v (.int .i64 6)),none⟩,⟨some 107,.mv (.t 106),none⟩,⟨some 108,.fadr 4 (.t 2),some (107,true)⟩,⟨some 109,.load 1 false (.t 108),some (107,true)⟩,⟨some 110,.len false (.t 109),some (107,true)⟩,⟨some 111,.fadr 3 (.t 2),some (107,true)⟩,⟨some 112,.load 1 false (.t 111),some (107,true)⟩,⟨some 113,.len false (.t 112),some (107,true)⟩,⟨some 114,.bin .neq (.t 110) (.t 113),some (107,true)⟩,⟨some 115,.pick (.t 107) (.t 114) (.v (.bool false)),none⟩,⟨some 116,.mv (.t 115),none⟩,⟨some 117,.fadr 0 (.t 2),some (116,false)⟩,⟨some 118,.load 1 false (.t 117),some (116,false)⟩,⟨some 119,.bin .neq (.t 118) (.v (.int .i64 6)),some (116,false)⟩,⟨some 120,.mv (.t 119),some (116,false)⟩,⟨some 121,.fadr 4 (.t 2),some (120,true)⟩,⟨some 122,.load 1 false (.t 121),some (120,true)⟩,⟨some 123,.len false (.t 122),some (120,true)⟩,⟨some 124,.bin .gtr (.t 123) (.v (.int .i64 0)),some (120,true)⟩,⟨some 125,.pick (.t 120) (.t 124) (.v (.bool false)),some (116,false)⟩,⟨some 126,.pick (.t 116) (.v (.bool true)) (.t 125),none⟩]
def r12 : List AO := [⟨some 4,.asg (.v (.bool false)),none⟩]
def r13 : List AO := [⟨some 6,.asg (.v (.int .i64 0)),none⟩]
def r14 : List AO := [⟨some 127,.mv (.t 6),none⟩,⟨some 128,.fadr 4 (.t 2),none⟩,⟨some 129,.load 1 false (.t 128),none⟩,⟨some 130,.len false (.t 129),none⟩,⟨some 131,.bin .lss (.t 127) (.t 130),none⟩]
def r16 : List Ph := [.bag false [] [] [(0,⟨some 134,.fadr 4 (.t 2),none⟩),(1,⟨some 135,.load 1 false (.t 134),none⟩),(2,⟨some 136,.mv (.t 6),none⟩),(3,⟨some 137,.iadr 1 (.t 135) (.t 136),none⟩),(4,⟨some 138,.load 1 false (.t 137),none⟩),(5,⟨some 139,.call .deep (.v (.clo F.h02_Valid [] [])) [.t 138],none⟩),(6,⟨some 140,.un .not (.t 139),none⟩),(7,⟨some 141,.mv (.t 140),none⟩),(8,⟨some 142,.mv (.t 6),some (141,false)⟩),(9,⟨some 143,.bin .gtr (.t 142) (.v (.int .i64 0)),some (141,false)⟩),(10,⟨some 144,.mv (.t 143),some (141,false)⟩),(11,⟨some 145,.fadr 4 (.t 2),some (144,true)⟩),(12,⟨some 146,.load 1 false (.t 145),some (144,true)⟩),(13,⟨some 147,.mv (.t 6),some (144,true)⟩),(14,⟨some 148,.bin .sub (.t 147) (.v (.int .i64 1)),some (144,true)⟩),(15,⟨some 149,.iadr 1 (.t 146) (.t 148),some (144,true)⟩),(16,⟨some 150,.load 1 false (.t 149),some (144,true)⟩),(17,⟨some 151,.fadr 4 (.t 2),some (144,true)⟩),(18,⟨some 152,.load 1 false (.t 151),some (144,true)⟩),(19,⟨some 153,.mv (.t 6),some (144,true)⟩),(20,⟨some 154,.iadr 1 (.t 152) (.t 153),some (144,true)⟩),(21,⟨some 155,.load 1 false (.t 154),some (144,true)⟩),(22,⟨some 156,.bin .geq (.t 150) (.t 155),some (144,true)⟩),(23,⟨some 157,.pick (.t 144) (.t 156) (.v (.bool false)),some (141,false)⟩),(24,⟨some 158,.pick (.t 141) (.v (.bool true)) (.t 157),none⟩)]]
def r17 : List AO := [⟨some 4,.asg (.v (.bool false)),none⟩]
def r15 : List AO := [⟨some 132,.mv (.t 6),none⟩,⟨some 133,.bin .add (.t 132) (.v (.int .i64 1)),none⟩,⟨some 6,.asg (.t 133),none⟩]
def l1 : AC := .seq (.seq (.reg r14 [1,2,6,131]) (.cond (.t 131) (.skip) (.exit 0))) (.seq (.block 1 (.seq (.dreg r16 [1,2,6,158]) (.cond (.t 158) (.seq (.reg r17 [4]) (.ret)) (.skip)))) (.reg r15 [1,2,6]))
def r18 : List AO := [⟨some 7,.asg (.v (.int .i64 0)),none⟩]
def r19 : List AO := [⟨some 159,.mv (.t 7),none⟩,⟨some 160,.fadr 3 (.t 2),none⟩,⟨some 161,.load 1 false (.t 160),none⟩,⟨some 162,.len false (.t 161),none⟩,⟨some 163,.bin .lss (.t 159) (.t 162),none⟩]
def r21 : List AO := [⟨some 166,.fadr 3 (.t 2),none⟩,⟨some 167,.load 1 false (.t 166),none⟩,⟨some 168,.mv (.t 7),none⟩,⟨some 169,.iadr 5 (.t 167) (.t 168),none⟩,⟨some 170,.load 5 true (.t 169),none⟩,⟨some 171,.mv (.t 1),none⟩,⟨some 172,.bin .sub (.t 171) (.v (.int .i64 1)),none⟩,⟨some 173,.call .deep (.v (.clo F.h05_Right [] [])) [.t 170,.t 172],none⟩,⟨some 174,.un .not (.t 173),none⟩]
def r22 : List AO := [⟨some 4,.asg (.v (.bool false)),none⟩]
def r20 : List AO := [⟨some 164,.mv (.t 7),none⟩,⟨some 165,.bin .add (.t 164) (.v (.int .i64 1)),none⟩,⟨some 7,.asg (.t 165),none⟩]
def l2 : AC := .seq (.seq (.reg r19 [1,2,7,163]) (.cond (.t 163) (.skip) (.exit 2))) (.seq (.block 3 (.seq (.reg r21 [1,2,7,174]) (.cond (.t 174) (.seq (.reg r22 [4]) (.ret)) (.skip)))) (.reg r20 [1,2,7]))
def r23 : List AO := [⟨some 4,.asg (.v (.bool true)),none⟩]
def body : AC := .seq (.reg r0 [1,2]) (.seq (.seq (.reg r1 [1,2,35]) (.cond (.t 35) (.seq (.reg r2 [4]) (.ret)) (.skip))) (.seq (.seq (.reg r3 [1,2,38]) (.cond (.t 38) (.seq (.reg r4 [1,2,5]) (.seq (.seq (.reg r5 [1,2,5,54]) (.cond (.t 54) (.reg r6 [1,2,5]) (.skip))) (.seq (.reg r7 [1,2,75]) (.cond (.t 75) (.seq (.reg r8 [4]) (.ret)) (.skip))))) (.skip))) (.seq (.seq (.reg r9 [1,2,103]) (.cond (.t 103) (.seq (.reg r10 [4]) (.ret)) (.skip))) (.seq (.seq (.reg r11 [1,2,126]) (.cond (.t 126) (.seq (.reg r12 [4]) (.ret)) (.skip))) (.seq (.seq (.reg r13 [1,2,6]) (.block 0 (.loop [1,2,6] l1))) (.seq (.seq (.reg r18 [1,2,7]) (.block 2 (.loop [1,2,7] l2))) (.seq (.reg r23 [4]) (.ret))))))))
def fn : AFun := ⟨[.val,.val],175,[.tmp 4],[],body⟩
end h05_Right
namespace h05_isDigit
def r0 : List AO := [⟨some 2,.asg (.v (.bool false)),none⟩]
def r1 : List AO := [⟨some 3,.mv (.t 0),none⟩,⟨some 4,.bin .geq (.t 3) (.v (.int .u8 48)),none⟩,⟨some 5,.mv (.t 4),none⟩,⟨some 6,.mv (.t 0),some (5,true)⟩,⟨some 7,.bin .leq (.t 6) (.v (.int .u8 57)),some (5,true)⟩,⟨some 8,.pick (.t 5) (.t 7) (.v (.bool false)),none⟩,⟨some 2,.asg (.t 8),none⟩]
def body : AC := .seq (.reg r0 [0]) (.seq (.reg r1 [2]) (.ret))
def fn : AFun := ⟨[.val],9,[.tmp 2],[],body⟩
end h05_isDigit
namespace h05_numeral
def r0 : List AO := [⟨some 4,.alloc [.av (.int .u8 0),.av (.int .i64 0),.av (.int .i64 0),.av (.str []),.av (.int .i64 0)],none⟩]
def r1 : List AO := [⟨some 10,.mv (.t 1),none⟩,⟨some 5,.asg (.t 10),none⟩]
def r2 : List AO := [⟨some 11,.mv (.t 5),none⟩,⟨some 12,.mv (.t 0),none⟩,⟨some 13,.len true (.t 12),none⟩,⟨some 14,.bin .lss (.t 11) (.t 13),none⟩,⟨some 15,.mv (.t 14),none⟩,⟨some 16,.mv (.t 0),some (15,true)⟩,⟨some 17,.mv (.t 5),some (15,true)⟩,⟨some 18,.idxS (.t 16) (.t 17),some (15,true)⟩,⟨some 19,.call .deep (.v (.clo F.h05_isLetter [] [])) [.t 18],some (15,true)⟩,⟨some 20,.mv (.t 19),some (15,true)⟩,⟨some 21,.mv (.t 0),some (20,false)⟩,⟨some 22,.mv (.t 5),some (20,false)⟩,⟨some 23,.idxS (.t 21) (.t 22),some (20,false)⟩,⟨some 24,.call .deep (.v (.clo F.h05_isDigit [] [])) [.t 23],some (20,false)⟩,⟨some 25,.pick (.t 20) (.v (.bool true)) (.t 24),some (15,true)⟩,⟨some 26,.mv (.t 25),some (15,true)⟩,⟨some 27,.mv (.t 0),some (26,false)⟩,⟨some 28,.mv (.t 5),some (26,false)⟩,⟨some 29,.idxS (.t 27) (.t 28),some (26,false)⟩,⟨some 30,.bin .eql (.t 29) (.v (.int .u8 43)),some (26,false)⟩,⟨some 31,.pick (.t 26) (.v (.bool true)) (.t 30),some (15,true)⟩,⟨some 32,.mv (.t 31),some (15,true)⟩,⟨some 33,.mv (.t 0),some (32,false)⟩,⟨some 34,.mv (.t 5),some (32,false)⟩,⟨some 35,.idxS (.t 33) (.t 34),some (32,false)⟩,⟨some 36,.bin .eql (.t 35) (.v (.int .u8 45)),some (32,false)⟩,⟨some 37,.pick (.t 32) (.v (.bool true)) (.t 36),some (15,true)⟩,⟨some 38,.mv (.t 37),some (15,true)⟩,⟨some 39,.mv (.t 0),some (38,false)⟩,⟨some 40,.mv (.t 5),some (38,false)⟩,⟨some 41,.idxS (.t 39) (.t 40),some (38,false)⟩,⟨some 42,.bin .eql (.t 41) (.v (.int .u8 46)),some (38,false)⟩,⟨some 43,.pick (.t 38) (.v (.bool true)) (.t 42),some (15,true)⟩,⟨some 44,.pick (.t 15) (.t 43) (.v (.bool false)),none⟩]
def r3 : List AO := [⟨some 45,.mv (.t 5),none⟩,⟨some 46,.bin .add (.t 45) (.v (.int .i64 1)),none⟩,⟨some 5,.asg (.t 46),none⟩]
def l1 : AC := .seq (.seq (.reg r2 [0,1,4,5,44]) (.cond (.t 44) (.skip) (.exit 0))) (.block 1 (.reg r3 [0,1,4,5]))
def r4 : List AO := [⟨some 47,.mv (.t 0),none⟩,⟨some 48,.mv (.t 1),none⟩,⟨some 49,.mv (.t 5),none⟩,⟨some 50,.slc true 1 (.t 47) (some (.t 48)) (some (.t 49)),none⟩,⟨some 6,.asg (.t 50),none⟩]
def r5 : List AO := [⟨some 51,.mv (.t 6),none⟩,⟨some 7,.asg (.t 51),none⟩]
def r6 : List AO := [⟨some 52,.mv (.t 6),none⟩,⟨some 53,.idxS (.t 52) (.v (.int .i64 0)),none⟩,⟨some 54,.bin .eql (.t 53) (.v (.int .u8 45)),none⟩]
def r7 : List AO := [⟨some 55,.mv (.t 6),none⟩,⟨some 56,.slc true 1 (.t 55) (some (.v (.int .i64 1))) none,none⟩,⟨some 7,.asg (.t 56),none⟩]
def r8 : List AO := [⟨some 57,.mv (.t 7),none⟩,⟨some 58,.len true (.t 57),none⟩,⟨some 59,.bin .gtr (.t 58) (.v (.int .i64 0)),none⟩,⟨some 60,.mv (.t 59),none⟩,⟨some 61,.mv (.t 7),some (60,true)⟩,⟨some 62,.idxS (.t 61) (.v (.int .i64 0)),some (60,true)⟩,⟨some 63,.bin .neq (.t 62) (.v (.int .u8 48)),some (60,true)⟩,⟨some 64,.mv (.t 63),some (60,true)⟩,⟨some 65,.mv (.t 7),some (64,false)⟩,⟨some 66,.len true (.t 65),some (64,false)⟩,⟨some 67,.bin .eql (.t 66) (.v (.int .i64 1)),some (64,false)⟩,⟨some 68,.pick (.t 64) (.v (.bool true)) (.t 67),some (60,true)⟩,⟨some 69,.pick (.t 60) (.t 68) (.v (.bool false)),none⟩,⟨some 8,.asg (.t 69),none⟩]
def r9 : List AO := [⟨some 9,.asg (.v (.int .i64 0)),none⟩]
def r10 : List AO := [⟨some 70,.mv (.t 9),none⟩,⟨some 71,.mv (.t 7),none⟩,⟨some 72,.len true (.t 71),none⟩,⟨some 73,.bin .lss (.t 70) (.t 72),none⟩]
def r12 : List AO := [⟨some 76,.mv (.t 8),none⟩,⟨some 77,.mv (.t 76),none⟩,⟨some 78,.mv (.t 7),some (77,true)⟩,⟨some 79,.mv (.t 9),some (77,true)⟩,⟨some 80,.idxS (.t 78) (.t 79),some (77,true)⟩,⟨some 81,.call .deep (.v (.clo F.h05_isDigit [] [])) [.t 80],some (77,true)⟩,⟨some 82,.pick (.t 77) (.t 81) (.v (.bool false)),none⟩,⟨some 8,.asg (.t 82),none⟩]
def r11 : List AO := [⟨some 74,.mv (.t 9),none⟩,⟨some 75,.bin .add (.t 74) (.v (.int .i64 1)),none⟩,⟨some 9,.asg (.t 75),none⟩]
def l2 : AC := .seq (.seq (.reg r10 [1,4,5,6,7,8,9,73]) (.cond (.t 73) (.skip) (.exit 2))) (.seq (.block 3 (.reg r12 [1,4,5,6,7,8,9])) (.reg r11 [1,4,5,6,7,8,9]))
def r13 : List AO := [⟨some 83,.mv (.t 8),none⟩,⟨some 84,.un .not (.t 83),none⟩]
def r14 : List AO := [⟨some 85,.mv (.t 1),none⟩,⟨some 86,.mv (.t 1),none⟩,⟨some 87,.build [.av (.int .u8 0),.av (.int .i64 0),.av (.int .i64 0),.av (.str []),.av (.int .i64 0)] [(0,1,.v (.int .u8 0)),(1,1,.t 85),(2,1,.t 86),(3,1,.v (.str [])),(4,1,.v (.int .i64 42))],none⟩,⟨none,.store 5 (.t 4) (.t 87),none⟩]
def r15 : List AO := [⟨some 88,.mv (.t 7),none⟩,⟨some 89,.bin .eql (.t 88) (.v (.str [48])),none⟩]
def r16 : List AO := [⟨some 6,.asg (.v (.str [48])),none⟩]
def r17 : List AO := [⟨some 90,.mv (.t 1),none⟩,⟨some 91,.mv (.t 5),none⟩,⟨some 92,.mv (.t 6),none⟩,⟨some 93,.build [.av (.int .u8 0),.av (.int .i64 0),.av (.int .i64 0),.av (.str []),.av (.int .i64 0)] [(0,1,.v (.int .u8 0)),(1,1,.t 90),(2,1,.t 91),(3,1,.t 92),(4,1,.v (.int .i64 0))],none⟩,⟨none,.store 5 (.t 4) (.t 93),none⟩]
def body : AC := .seq (.reg r0 [0,1,4]) (.seq (.reg r1 [0,1,4,5]) (.seq (.block 0 (.loop [0,1,4,5] l1)) (.seq (.reg r4 [1,4,5,6]) (.seq (.reg r5 [1,4,5,6,7]) (.seq (.seq (.reg r6 [1,4,5,6,7,54]) (.cond (.t 54) (.reg r7 [1,4,5,6,7]) (.skip))) (.seq (.reg r8 [1,4,5,6,7,8]) (.seq (.seq (.reg r9 [1,4,5,6,7,8,9]) (.block 2 (.loop [1,4,5,6,7,8,9] l2))) (.seq (.seq (.reg r13 [1,4,5,6,7,84]) (.cond (.t 84) (.seq (.reg r14 [4]) (.ret)) (.skip))) (.seq (.seq (.reg r15 [1,4,5,6,89]) (.cond (.t 89) (.reg r16 [1,4,5,6]) (.skip))) (.seq (.reg r17 [4]) (.ret)))))))))))
def fn : AFun := ⟨[.val,.val],94,[.cell 4 5 true],[],body⟩
end h05_numeral
namespace h02_Valid
def r0 : List AO := [⟨some 2,.asg (.v (.bool false)),none⟩]
def r1 : List AO := [⟨some 5,.mv (.t 0),none⟩,⟨some 6,.call .deep (.v (.clo F.h02_Pieces [] [])) [.t 5],none⟩,⟨some 3,.asgo (.t 6),none⟩]
def r2 : List AO := [⟨some 4,.asg (.v (.int .i64 0)),none⟩]
def r3 : List AO := [⟨some 7,.mv (.t 4),none⟩,⟨some 8,.mvr 3,none⟩,⟨some 9,.len false (.t 8),none⟩,⟨some 10,.bin .lss (.t 7) (.t 9),none⟩]
def r5 : List AO := [⟨some 13,.mvr 3,none⟩,⟨some 14,.mv (.t 4),none⟩,⟨some 15,.iadr 4 (.t 13) (.t 14),none⟩,⟨some 16,.fadr 3 (.t 15),none⟩,⟨some 17,.load 1 false (.t 16),none⟩]
def r6 : List AO := [⟨some 2,.asg (.v (.bool false)),none⟩]
def r4 : List AO := [⟨some 11,.mv (.t 4),none⟩,⟨some 12,.bin .add (.t 11) (.v (.int .i64 1)),none⟩,⟨some 4,.asg (.t 12),none⟩]
def l1 : AC := .seq (.seq (.reg r3 [3,4,10]) (.cond (.t 10) (.skip) (.exit 0))) (.seq (.block 1 (.seq (.reg r5 [3,4,17]) (.cond (.t 17) (.seq (.reg r6 [2]) (.ret)) (.skip)))) (.reg r4 [3,4]))
def r7 : List AO := [⟨some 2,.asg (.v (.bool true)),none⟩]
def body : AC := .seq (.reg r0 [0]) (.seq (.reg r1 [3]) (.seq (.seq (.reg r2 [3,4]) (.block 0 (.loop [3,4] l1))) (.seq (.reg r7 [2]) (.ret))))
def fn : AFun := ⟨[.val],18,[.tmp 2],[3],body⟩
end h02_Valid
namespace h05_isLetter
def r0 : List AO := [⟨some 2,.asg (.v (.bool false)),none⟩]
def r1 : List AO := [⟨some 3,.mv (.t 0),none⟩,⟨some 4,.bin .geq (.t 3) (.v (.int .u8 97)),none⟩,⟨some 5,.mv (.t 4),none⟩,⟨some 6,.mv (.t 0),some (5,true)⟩,⟨some 7,.bin .leq (.t 6) (.v (.int .u8 122)),some (5,true)⟩,⟨some 8,.pick (.t 5) (.t 7) (.v (.bool false)),none⟩,⟨some 9,.mv (.t 8),none⟩,⟨some 10,.mv (.t 0),some (9,false)⟩,⟨some 11,.bin .geq (.t 10) (.v (.int .u8 65)),some (9,false)⟩,⟨some 12,.mv (.t 11),some (9,false)⟩,⟨some 13,.mv (.t 0),some (12,true)⟩,⟨some 14,.bin .leq (.t 13) (.v (.int .u8 90)),some (12,true)⟩,⟨some 15,.pick (.t 12) (.t 14) (.v (.bool false)),some (9,false)⟩,⟨some 16,.pick (.t 9) (.v (.bool true)) (.t 15),none⟩,⟨some 17,.mv (.t 16),none⟩,⟨some 18,.mv (.t 0),some (17,false)⟩,⟨some 19,.bin .eql (.t 18) (.v (.int .u8 95)),some (17,false)⟩,⟨some 20,.pick (.t 17) (.v (.bool true)) (.t 19),none⟩,⟨some 2,.asg (.t 20),none⟩]
def body : AC := .seq (.reg r0 [0]) (.seq (.reg r1 [2]) (.ret))
def fn : AFun := ⟨[.val],21,[.tmp 2],[],body⟩
end h05_isLetter
namespace h02_Pieces
def r0 : List AO := [⟨some 2,.asgo (.w [.own 4 []] false),none⟩]
def r1 : List AO := [⟨some 6,.buildS 0 4 [.av (.int .i64 0),.av (.int .i64 0),.av (.int .i64 0),.av (.bool false)] [],none⟩,⟨some 3,.asgo (.t 6),none⟩]
def r2 : List AO := [⟨some 4,.asg (.v (.int .i64 0)),none⟩]
def r3 : List AO := [⟨some 7,.mv (.t 4),none⟩,⟨some 8,.mv (.t 0),none⟩,⟨some 9,.len true (.t 8),none⟩,⟨some 10,.bin .lss (.t 7) (.t 9),none⟩]
def r4 : List AO := [⟨some 11,.mv (.t 0),none⟩,⟨some 12,.mv (.t 4),none⟩,⟨some 13,.call .deep (.v (.clo F.h02_at [] [])) [.t 11,.t 12],none⟩,⟨some 5,.alloc [.av (.int .i64 0),.av (.int .i64 0),.av (.int .i64 0),.av (.bool false)],none⟩,⟨none,.store 4 (.t 5) (.t 13),none⟩]
def r5 : List AO := [⟨some 14,.mvt 3,none⟩,⟨some 15,.load 4 true (.t 5),none⟩,⟨some 16,.buildS 1 4 [.av (.int .i64 0),.av (.int .i64 0),.av (.int .i64 0),.av (.bool false)] [(0,4,.t 15)],none⟩,⟨some 17,.append 32 4 (.t 14) (.t 16),none⟩,⟨some 3,.asgo (.t 17),none⟩]
def r6 : List AO := [⟨some 18,.fadr 1 (.t 5),none⟩,⟨some 19,.load 1 false (.t 18),none⟩,⟨some 4,.asg (.t 19),none⟩]
def l1 : AC := .seq (.seq (.reg r3 [0,3,4,10]) (.cond (.t 10) (.skip) (.exit 0))) (.block 1 (.seq (.reg r4 [0,3,5]) (.seq (.reg r5 [0,3,5]) (.reg r6 [0,3,4]))))
def r7 : List AO := [⟨some 20,.mvt 3,none⟩,⟨some 2,.asgo (.t 20),none⟩]
def body : AC := .seq (.reg r0 [0]) (.seq (.reg r1 [0,3]) (.seq (.reg r2 [0,3,4]) (.seq (.block 0 (.loop [0,3,4] l1)) (.seq (.reg r7 [2]) (.ret)))))
def fn : AFun := ⟨[.val],21,[.tmp 2],[2,3],body⟩
end h02_Pieces
namespace h02_at
def r0 : List AO := [⟨some 4,.alloc [.av (.int .i64 0),.av (.int .i64 0),.av (.int .i64 0),.av (.bool false)],none⟩]
def r1 : List AO := [⟨some 5,.asg (.v (.int .i64 1)),none⟩]
def r2 : List AO := [⟨some 7,.mv (.t 5),none⟩,⟨some 8,.bin .leq (.t 7) (.v (.int .i64 4)),none⟩,⟨some 9,.mv (.t 8),none⟩,⟨some 10,.mv (.t 1),some (9,true)⟩,⟨some 11,.mv (.t 5),some (9,true)⟩,⟨some 12,.bin .add (.t 10) (.t 11),some (9,true)⟩,⟨some 13,.mv (.t 0),some (9,true)⟩,⟨some 14,.len true (.t 13),some (9,true)⟩,⟨some 15,.bin .leq (.t 12) (.t 14),some (9,true)⟩,⟨some 16,.pick (.t 9) (.t 15) (.v (.bool false)),none⟩]
def r4 : List AO := [⟨some 19,.mv (.t 0),none⟩,⟨some 20,.mv (.t 1),none⟩,⟨some 21,.mv (.t 5),none⟩,⟨some 22,.call .deep (.v (.clo F.h02_spelled [] [])) [.t 19,.t 20,.t 21],none⟩,⟨some 6,.asg (.t 22),none⟩]
def r5 : List AO := [⟨some 23,.mv (.t 6),none⟩,⟨some 24,.bin .geq (.t 23) (.v (.int .i64 0)),none⟩,⟨some 25,.mv (.t 24),none⟩,⟨some 26,.mv (.t 0),some (25,true)⟩,⟨some 27,.mv (.t 1),some (25,true)⟩,⟨some 28,.mv (.t 6),some (25,true)⟩,⟨some 29,.call .deep (.v (.clo F.h02_Encoding [] [])) [.t 28],some (25,true)⟩,⟨some 30,.call .deep (.v (.clo F.h02_same [] [])) [.t 26,.t 27,.t 29],some (25,true)⟩,⟨some 31,.pick (.t 25) (.t 30) (.v (.bool false)),none⟩]
def r6 : List AO := [⟨some 32,.mv (.t 1),none⟩,⟨some 33,.mv (.t 1),none⟩,⟨some 34,.mv (.t 5),none⟩,⟨some 35,.bin .add (.t 33) (.t 34),none⟩,⟨some 36,.mv (.t 6),none⟩,⟨some 37,.build [.av (.int .i64 0),.av (.int .i64 0),.av (.int .i64 0),.av (.bool false)] [(0,1,.t 32),(1,1,.t 35),(2,1,.t 36),(3,1,.v (.bool false))],none⟩,⟨none,.store 4 (.t 4) (.t 37),none⟩]
def r3 : List AO := [⟨some 17,.mv (.t 5),none⟩,⟨some 18,.bin .add (.t 17) (.v (.int .i64 1)),none⟩,⟨some 5,.asg (.t 18),none⟩]
def l1 : AC := .seq (.seq (.reg r2 [0,1,4,5,16]) (.cond (.t 16) (.skip) (.exit 0))) (.seq (.block 1 (.seq (.reg r4 [0,1,4,5,6]) (.seq (.reg r5 [0,1,4,5,6,31]) (.cond (.t 31) (.seq (.reg r6 [4]) (.ret)) (.skip))))) (.reg r3 [0,1,4,5]))
def r7 : List AO := [⟨some 38,.mv (.t 1),none⟩,⟨some 39,.mv (.t 1),none⟩,⟨some 40,.bin .add (.t 39) (.v (.int .i64 1)),none⟩,⟨some 41,.build [.av (.int .i64 0),.av (.int .i64 0),.av (.int .i64 0),.av (.bool false)] [(0,1,.t 38),(1,1,.t 40),(2,1,.v (.int .i64 65533)),(3,1,.v (.bool true))],none⟩,⟨none,.store 4 (.t 4) (.t 41),none⟩]
def body : AC := .seq (.reg r0 [0,1,4]) (.seq (.seq (.reg r1 [0,1,4,5]) (.block 0 (.loop [0,1,4,5] l1))) (.seq (.reg r7 [4]) (.ret)))
def fn : AFun := ⟨[.val,.val],42,[.cell 4 4 true],[],body⟩
end h02_at
namespace h02_spelled
def r0 : List AO := [⟨some 6,.asg (.v (.int .i64 0)),none⟩]
def r1 : List AO := [⟨some 10,.mv (.t 0),none⟩,⟨some 11,.mv (.t 1),none⟩,⟨some 12,.idxS (.t 10) (.t 11),none⟩,⟨some 13,.conv (.int .i64) (.t 12),none⟩,⟨some 7,.asg (.t 13),none⟩]
def r2 : List AO := [⟨some 14,.mv (.t 2),none⟩,⟨some 15,.bin .eql (.t 14) (.v (.int .i64 2)),none⟩]
def r3 : List AO := [⟨some 16,.mv (.t 7),none⟩,⟨some 17,.bin .sub (.t 16) (.v (.int .i64 192)),none⟩,⟨some 7,.asg (.t 17),none⟩]
def r4 : List AO := [⟨some 18,.mv (.t 2),none⟩,⟨some 19,.bin .eql (.t 18) (.v (.int .i64 3)),none⟩]
def r5 : List AO := [⟨some 20,.mv (.t 7),none⟩,⟨some 21,.bin .sub (.t 20) (.v (.int .i64 224)),none⟩,⟨some 7,.asg (.t 21),none⟩]
def r6 : List AO := [⟨some 22,.mv (.t 2),none⟩,⟨some 23,.bin .eql (.t 22) (.v (.int .i64 4)),none⟩]
def r7 : List AO := [⟨some 24,.mv (.t 7),none⟩,⟨some 25,.bin .sub (.t 24) (.v (.int .i64 240)),none⟩,⟨some 7,.asg (.t 25),none⟩]
def r8 : List AO := [⟨some 26,.mv (.t 7),none⟩,⟨some 27,.bin .lss (.t 26) (.v (.int .i64 0)),none⟩]
def r9 : List AO := [⟨some 6,.asg (.v (.int .i64 (-1))),none⟩]
def r10 : List AO := [⟨some 8,.asg (.v (.int .i64 1)),none⟩]
def r11 : List AO := [⟨some 28,.mv (.t 8),none⟩,⟨some 29,.mv (.t 2),none⟩,⟨some 30,.bin .lss (.t 28) (.t 29),none⟩]
def r13 : List AO := [⟨some 33,.mv (.t 0),none⟩,⟨some 34,.mv (.t 1),none⟩,⟨some 35,.mv (.t 8),none⟩,⟨some 36,.bin .add (.t 34) (.t 35),none⟩,⟨some 37,.idxS (.t 33) (.t 36),none⟩,⟨some 38,.conv (.int .i64) (.t 37),none⟩,⟨some 9,.asg (.t 38),none⟩]
def r14 : List AO := [⟨some 39,.mv (.t 9),none⟩,⟨some 40,.bin .lss (.t 39) (.v (.int .i64 128)),none⟩,⟨some 41,.mv (.t 40),none⟩,⟨some 42,.mv (.t 9),some (41,false)⟩,⟨some 43,.bin .gtr (.t 42) (.v (.int .i64 191)),some (41,false)⟩,⟨some 44,.pick (.t 41) (.v (.bool true)) (.t 43),none⟩]
def r15 : List AO := [⟨some 6,.asg (.v (.int .i64 (-1))),none⟩]
def r16 : List AO := [⟨some 45,.mv (.t 7),none⟩,⟨some 46,.bin .mul (.v (.int .i64 64)) (.t 45),none⟩,⟨some 47,.mv (.t 9),none⟩,⟨some 48,.bin .add (.t 46) (.t 47),none⟩,⟨some 49,.bin .sub (.t 48) (.v (.int .i64 128)),none⟩,⟨some 7,.asg (.t 49),none⟩]
def r12 : List AO := [⟨some 31,.mv (.t 8),none⟩,⟨some 32,.bin .add (.t 31) (.v (.int .i64 1)),none⟩,⟨some 8,.asg (.t 32),none⟩]
def l1 : AC := .seq (.seq (.reg r11 [0,1,2,7,8,30]) (.cond (.t 30) (.skip) (.exit 0))) (.seq (.block 1 (.seq (.reg r13 [0,1,2,7,8,9]) (.seq (.seq (.reg r14 [0,1,2,7,8,9,44]) (.cond (.t 44) (.seq (.reg r15 [6]) (.ret)) (.skip))) (.reg r16 [0,1,2,7,8])))) (.reg r12 [0,1,2,7,8]))
def r17 : List AO := [⟨some 50,.mv (.t 7),none⟩,⟨some 51,.call .deep (.v (.clo F.h02_IsRune [] [])) [.t 50],none⟩,⟨some 52,.un .not (.t 51),none⟩,⟨some 53,.mv (.t 52),none⟩,⟨some 54,.mv (.t 7),some (53,false)⟩,⟨some 55,.call .deep (.v (.clo F.h02_Size [] [])) [.t 54],some (53,false)⟩,⟨some 56,.mv (.t 2),some (53,false)⟩,⟨some 57,.bin .neq (.t 55) (.t 56),some (53,false)⟩,⟨some 58,.pick (.t 53) (.v (.bool true)) (.t 57),none⟩]
def r18 : List AO := [⟨some 6,.asg (.v (.int .i64 (-1))),none⟩]
def r19 : List AO := [⟨some 59,.mv (.t 7),none⟩,⟨some 6,.asg (.t 59),none⟩]
def body : AC := .seq (.reg r0 [0,1,2]) (.seq (.reg r1 [0,1,2,7]) (.seq (.seq (.reg r2 [0,1,2,7,15]) (.cond (.t 15) (.reg r3 [0,1,2,7]) (.skip))) (.seq (.seq (.reg r4 [0,1,2,7,19]) (.cond (.t 19) (.reg r5 [0,1,2,7]) (.skip))) (.seq (.seq (.reg r6 [0,1,2,7,23]) (.cond (.t 23) (.reg r7 [0,1,2,7]) (.skip))) (.seq (.seq (.reg r8 [0,1,2,7,27]) (.cond (.t 27) (.seq (.reg r9 [6]) (.ret)) (.skip))) (.seq (.seq (.reg r10 [0,1,2,7,8]) (.block 0 (.loop [0,1,2,7,8] l1))) (.seq (.seq (.reg r17 [7,58]) (.cond (.t 58) (.seq (.reg r18 [6]) (.ret)) (.skip))) (.seq (.reg r19 [6]) (.ret)))))))))
def fn : AFun := ⟨[.val,.val,.val],60,[.tmp 6],[],body⟩
end h02_spelled
namespace h02_Encoding
def r0 : List AO := [⟨some 2,.asgo (.w [.own 1 []] false),none⟩]
def r1 : List AO := [⟨some 7,.mv (.t 0),none⟩,⟨some 8,.call .deep (.v (.clo F.h02_IsRune [] [])) [.t 7],none⟩,⟨some 9,.un .not (.t 8),none⟩]
def r2 : List AO := [⟨some 0,.asg (.v (.int .i64 65533)),none⟩]
def r3 : List AO := [⟨some 10,.mv (.t 0),none⟩,⟨some 11,.call .deep (.v (.clo F.h02_Size [] [])) [.t 10],none⟩,⟨some 3,.asg (.t 11),none⟩]
def r4 : List AO := [⟨some 12,.mv (.t 3),none⟩,⟨some 13,.bin .eql (.t 12) (.v (.int .i64 1)),none⟩]
def r5 : List AO := [⟨some 14,.mv (.t 0),none⟩,⟨some 15,.conv (.int .u8) (.t 14),none⟩,⟨some 16,.buildS 1 1 [.av (.int .u8 0)] [(0,1,.t 15)],none⟩,⟨some 2,.asgo (.t 16),none⟩]
def r6 : List AO := [⟨some 17,.mv (.t 3),none⟩,⟨some 18,.mks [.av (.int .u8 0)] (.t 17) (.t 17),none⟩,⟨some 4,.asgo (.t 18),none⟩]
def r7 : List AO := [⟨some 19,.mv (.t 3),none⟩,⟨some 20,.bin .sub (.t 19) (.v (.int .i64 1)),none⟩,⟨some 5,.asg (.t 20),none⟩]
def r8 : List AO := [⟨some 21,.mv (.t 5),none⟩,⟨some 22,.bin .gtr (.t 21) (.v (.int .i64 0)),none⟩]
def r10 : List AO := [⟨some 25,.mvr 4,none⟩,⟨some 26,.mv (.t 5),none⟩,⟨some 27,.mv (.t 0),none⟩,⟨some 28,.bin .rem (.t 27) (.v (.int .i64 64)),none⟩,⟨some 29,.bin .add (.v (.int .i64 128)) (.t 28),none⟩,⟨some 30,.conv (.int .u8) (.t 29),none⟩,⟨some 31,.iadr 1 (.t 25) (.t 26),none⟩,⟨none,.store 1 (.t 31) (.t 30),none⟩]
def r11 : List AO := [⟨some 32,.mv (.t 0),none⟩,⟨some 33,.bin .quo (.t 32) (.v (.int .i64 64)),none⟩,⟨some 0,.asg (.t 33),none⟩]
def r9 : List AO := [⟨some 23,.mv (.t 5),none⟩,⟨some 24,.bin .sub (.t 23) (.v (.int .i64 1)),none⟩,⟨some 5,.asg (.t 24),none⟩]
def l1 : AC := .seq (.seq (.reg r8 [0,3,4,5,22]) (.cond (.t 22) (.skip) (.exit 0))) (.seq (.block 1 (.seq (.reg r10 [0,3,4,5]) (.reg r11 [0,3,4,5]))) (.reg r9 [0,3,4,5]))
def r12 : List AO := [⟨some 6,.asg (.v (.int .i64 192)),none⟩]
def r13 : List AO := [⟨some 34,.mv (.t 3),none⟩,⟨some 35,.bin .eql (.t 34) (.v (.int .i64 3)),none⟩]
def r14 : List AO := [⟨some 6,.asg (.v (.int .i64 224)),none⟩]
def r15 : List AO := [⟨some 36,.mv (.t 3),none⟩,⟨some 37,.bin .eql (.t 36) (.v (.int .i64 4)),none⟩]
def r16 : List AO := [⟨some 6,.asg (.v (.int .i64 240)),none⟩]
def r17 : List AO := [⟨some 38,.mvr 4,none⟩,⟨some 39,.mv (.t 6),none⟩,⟨some 40,.mv (.t 0),none⟩,⟨some 41,.bin .add (.t 39) (.t 40),none⟩,⟨some 42,.conv (.int .u8) (.t 41),none⟩,⟨some 43,.iadr 1 (.t 38) (.v (.int .i64 0)),none⟩,⟨none,.store 1 (.t 43) (.t 42),none⟩]
def r18 : List AO := [⟨some 44,.mvt 4,none⟩,⟨some 2,.asgo (.t 44),none⟩]
def body : AC := .seq (.reg r0 [0]) (.seq (.seq (.reg r1 [0,9]) (.cond (.t 9) (.reg r2 [0]) (.skip))) (.seq (.reg r3 [0,3]) (.seq (.seq (.reg r4 [0,3,13]) (.cond (.t 13) (.seq (.reg r5 [2]) (.ret)) (.skip))) (.seq (.reg r6 [0,3,4]) (.seq (.seq (.reg r7 [0,3,4,5]) (.block 0 (.loop [0,3,4,5] l1))) (.seq (.reg r12 [0,3,4,6]) (.seq (.seq (.reg r13 [0,3,4,6,35]) (.cond (.t 35) (.reg r14 [0,3,4,6]) (.skip))) (.seq (.seq (.reg r15 [0,4,6,37]) (.cond (.t 37) (.reg r16 [0,4,6]) (.skip))) (.seq (.reg r17 [4]) (.seq (.reg r18 [2]) (.ret)))))))))))
def fn : AFun := ⟨[.val],45,[.tmp 2],[2,4],body⟩
end h02_Encoding
namespace h02_same
def r0 : List AO := [⟨some 6,.asg (.v (.bool false)),none⟩]
def r1 : List AO := [⟨some 8,.mv (.t 1),none⟩,⟨some 9,.mv (.t 2),none⟩,⟨some 10,.len false (.t 9),none⟩,⟨some 11,.bin .add (.t 8) (.t 10),none⟩,⟨some 12,.mv (.t 0),none⟩,⟨some 13,.len true (.t 12),none⟩,⟨some 14,.bin .gtr (.t 11) (.t 13),none⟩]
def r2 : List AO := [⟨some 6,.asg (.v (.bool false)),none⟩]
def r3 : List AO := [⟨some 7,.asg (.v (.int .i64 0)),none⟩]
def r4 : List AO := [⟨some 15,.mv (.t 7),none⟩,⟨some 16,.mv (.t 2),none⟩,⟨some 17,.len false (.t 16),none⟩,⟨some 18,.bin .lss (.t 15) (.t 17),none⟩]
def r6 : List Ph := [.bag false [] [0,1,2] [(0,⟨some 21,.mv (.t 0),none⟩),(1,⟨some 22,.mv (.t 1),none⟩),(2,⟨some 23,.mv (.t 7),none⟩),(3,⟨some 24,.bin .add (.t 22) (.t 23),none⟩),(4,⟨some 25,.idxS (.t 21) (.t 24),none⟩),(5,⟨some 26,.mv (.t 2),none⟩),(6,⟨some 27,.mv (.t 7),none⟩),(7,⟨some 28,.iadr 1 (.t 26) (.t 27),none⟩),(8,⟨some 29,.load 1 false (.t 28),none⟩),(9,⟨some 30,.bin .neq (.t 25) (.t 29),none⟩)]]
def r7 : List AO := [⟨some 6,.asg (.v (.bool false)),none⟩]
def r5 : List AO := [⟨some 19,.mv (.t 7),none⟩,⟨some 20,.bin .add (.t 19) (.v (.int .i64 1)),none⟩,⟨some 7,.asg (.t 20),none⟩]
def l1 : AC := .seq (.seq (.reg r4 [0,1,2,7,18]) (.cond (.t 18) (.skip) (.exit 0))) (.seq (.block 1 (.seq (.dreg r6 [0,1,2,7,30]) (.cond (.t 30) (.seq (.reg r7 [6]) (.ret)) (.skip)))) (.reg r5 [0,1,2,7]))
def r8 : List AO := [⟨some 6,.asg (.v (.bool true)),none⟩]
def body : AC := .seq (.reg r0 [0,1,2]) (.seq (.seq (.reg r1 [0,1,2,14]) (.cond (.t 14) (.seq (.reg r2 [6]) (.ret)) (.skip))) (.seq (.seq (.reg r3 [0,1,2,7]) (.block 0 (.loop [0,1,2,7] l1))) (.seq (.reg r8 [6]) (.ret))))
def fn : AFun := ⟨[.val,.val,.val],31,[.tmp 6],[],body⟩
end h02_same
namespace h02_IsRune
def r0 : List AO := [⟨some 2,.asg (.v (.bool false)),none⟩]
def r1 : List AO := [⟨some 3,.mv (.t 0),none⟩,⟨some 4,.bin .geq (.t 3) (.v (.int .i64 0)),none⟩,⟨some 5,.mv (.t 4),none⟩,⟨some 6,.mv (.t 0),some (5,true)⟩,⟨some 7,.bin .leq (.t 6) (.v (.int .i64 1114111)),some (5,true)⟩,⟨some 8,.pick (.t 5) (.t 7) (.v (.bool false)),none⟩,⟨some 9,.mv (.t 8),none⟩,⟨some 10,.mv (.t 0),some (9,true)⟩,⟨some 11,.bin .lss (.t 10) (.v (.int .i64 55296)),some (9,true)⟩,⟨some 12,.mv (.t 11),some (9,true)⟩,⟨some 13,.mv (.t 0),some (12,false)⟩,⟨some 14,.bin .gtr (.t 13) (.v (.int .i64 57343)),some (12,false)⟩,⟨some 15,.pick (.t 12) (.v (.bool true)) (.t 14),some (9,true)⟩,⟨some 16,.pick (.t 9) (.t 15) (.v (.bool false)),none⟩,⟨some 2,.asg (.t 16),none⟩]
def body : AC := .seq (.reg r0 [0]) (.seq (.reg r1 [2]) (.ret))
def fn : AFun := ⟨[.val],17,[.tmp 2],[],body⟩
end h02_IsRune
namespace h02_Size
def r0 : List AO := [⟨some 2,.asg (.v (.int .i64 0)),none⟩]
def r1 : List AO := [⟨some 3,.mv (.t 0),none⟩,⟨some 4,.bin .lss (.t 3) (.v (.int .i64 128)),none⟩]
def r2 : List AO := [⟨some 2,.asg (.v (.int .i64 1)),none⟩]
def r3 : List AO := [⟨some 5,.mv (.t 0),none⟩,⟨some 6,.bin .lss (.t 5) (.v (.int .i64 2048)),none⟩]
def r4 : List AO := [⟨some 2,.asg (.v (.int .i64 2)),none⟩]
def r5 : List AO := [⟨some 7,.mv (.t 0),none⟩,⟨some 8,.bin .lss (.t 7) (.v (.int .i64 65536)),none⟩]
def r6 : List AO := [⟨some 2,.asg (.v (.int .i64 3)),none⟩]
def r7 : List AO := [⟨some 2,.asg (.v (.int .i64 4)),none⟩]
def body : AC := .seq (.reg r0 [0]) (.seq (.seq (.reg r1 [0,4]) (.cond (.t 4) (.seq (.reg r2 [2]) (.ret)) (.skip))) (.seq (.seq (.reg r3 [0,6]) (.cond (.t 6) (.seq (.reg r4 [2]) (.ret)) (.skip))) (.seq (.seq (.reg r5 [8]) (.cond (.t 8) (.seq (.reg r6 [2]) (.ret)) (.skip))) (.seq (.reg r7 [2]) (.ret)))))
def fn : AFun := ⟨[.val],9,[.tmp 2],[],body⟩
end h02_Size
namespace slices_Clone_Ls
def r0 : List AO := [⟨some 2,.asgo (.w [.own 1 []] false),none⟩]
def r1 : List AO := [⟨some 3,.mv (.t 0),none⟩,⟨some 4,.isnil .sl false (.t 3),none⟩]
def r2 : List AO := [⟨some 2,.asgo (.w [.own 1 []] false),none⟩]
def r3 : List AO := [⟨some 5,.buildS 0 1 [.av (.str [])] [],none⟩,⟨some 6,.mv (.t 0),none⟩,⟨some 7,.append 16 1 (.t 5) (.t 6),none⟩,⟨some 2,.asgo (.t 7),none⟩]
def body : AC := .seq (.reg r0 [0]) (.seq (.seq (.reg r1 [0,4]) (.cond (.t 4) (.seq (.reg r2 [2]) (.ret)) (.skip))) (.seq (.reg r3 [2]) (.ret)))
def fn : AFun := ⟨[.val],8,[.tmp 2],[2],body⟩
end slices_Clone_Ls
namespace slices_Clone_LV
def r0 : List AO := [⟨some 2,.asgo (.w [.own 5 []] false),none⟩]
def r1 : List AO := [⟨some 3,.mv (.t 0),none⟩,⟨some 4,.isnil .sl false (.t 3),none⟩]
def r2 : List AO := [⟨some 2,.asgo (.w [.own 5 []] false),none⟩]
def r3 : List AO := [⟨some 5,.buildS 0 5 [.av (.int .i64 0),.av (.str []),.av (.str []),.own 5 [],.own 1 []] [],none⟩,⟨some 6,.mv (.t 0),none⟩,⟨some 7,.append 88 5 (.t 5) (.t 6),none⟩,⟨some 2,.asgo (.t 7),none⟩]
def body : AC := .seq (.reg r0 [0]) (.seq (.seq (.reg r1 [0,4]) (.cond (.t 4) (.seq (.reg r2 [2]) (.ret)) (.skip))) (.seq (.reg r3 [2]) (.ret)))
def fn : AFun := ⟨[.val],8,[.tmp 2],[2],body⟩
end slices_Clone_LV
end Hm
