/- The cleaned code of the functions that the law reaches, printed by program. Conditions: none (definitions). -/
import Derived.Test.YtkjppfdcnfiaeaaHA
set_option maxRecDepth 100000
namespace Hm
namespace F
abbrev hallmarkref03_Number : Nat := 17
abbrev hallmarkref03_UTF : Nat := 18
abbrev hallmarkref03_Rise : Nat := 19
abbrev hallmarkref03_width : Nat := 42
abbrev hallmarkref03_trail : Nat := 53
abbrev hallmarkref03_Numbers : Nat := 107
abbrev hallmarkref03_Texts : Nat := 108
abbrev hallmarklaw09_ShapeHeight : Nat := 134
abbrev shape_Height : Nat := 135
abbrev hallmarkkit_FitType : Nat := 136
abbrev hallmarkref09_Formed : Nat := 137
abbrev hallmarkref09_Height : Nat := 138
abbrev hallmarkkit_typeParts : Nat := 142
abbrev hallmarkref09_Bare : Nat := 143
abbrev hallmarkref09_Spans : Nat := 144
abbrev hallmarkref09_arrays : Nat := 145
abbrev hallmarkref09_objects : Nat := 146
abbrev hallmarkref09_higher : Nat := 147
abbrev hallmarkref09_bound : Nat := 159
abbrev hallmarkref09_Never : Nat := 160
abbrev hallmarkref09_object : Nat := 161
end F
namespace hallmarkref03_Number
def r0 : List AO := [⟨some 2, .asg (.v (.bool false)), none⟩]
def r1 : List AO := [⟨some 5, .mv (.t 0), none⟩,
  ⟨some 3, .asg (.t 5), none⟩]
def r2 : List AO := [⟨some 6, .mv (.t 0), none⟩,
  ⟨some 7, .len true (.t 6), none⟩,
  ⟨some 8, .bin .gtr (.t 7) (.v (.int .i64 0)), none⟩,
  ⟨some 9, .mv (.t 8), none⟩,
  ⟨some 10, .mv (.t 0), some (9, true)⟩,
  ⟨some 11, .idxS (.t 10) (.v (.int .i64 0)), some (9, true)⟩,
  ⟨some 12, .bin .eql (.t 11) (.v (.int .u8 45)), some (9, true)⟩,
  ⟨some 13, .pick (.t 9) (.t 12) (.v (.bool false)), none⟩]
def r3 : List AO := [⟨some 14, .mv (.t 0), none⟩,
  ⟨some 15, .slc true 1 (.t 14) (some (.v (.int .i64 1))) none, none⟩,
  ⟨some 3, .asg (.t 15), none⟩]
def r4 : List AO := [⟨some 4, .asg (.v (.int .i64 0)), none⟩]
def r5 : List AO := [⟨some 16, .mv (.t 4), none⟩,
  ⟨some 17, .mv (.t 3), none⟩,
  ⟨some 18, .len true (.t 17), none⟩,
  ⟨some 19, .bin .lss (.t 16) (.t 18), none⟩]
def r7 : List AO := [⟨some 22, .mv (.t 3), none⟩,
  ⟨some 23, .mv (.t 4), none⟩,
  ⟨some 24, .idxS (.t 22) (.t 23), none⟩,
  ⟨some 25, .bin .lss (.t 24) (.v (.int .u8 48)), none⟩,
  ⟨some 26, .mv (.t 25), none⟩,
  ⟨some 27, .mv (.t 3), some (26, false)⟩,
  ⟨some 28, .mv (.t 4), some (26, false)⟩,
  ⟨some 29, .idxS (.t 27) (.t 28), some (26, false)⟩,
  ⟨some 30, .bin .gtr (.t 29) (.v (.int .u8 57)), some (26, false)⟩,
  ⟨some 31, .pick (.t 26) (.v (.bool true)) (.t 30), none⟩]
def r8 : List AO := [⟨some 2, .asg (.v (.bool false)), none⟩]
def r6 : List AO := [⟨some 20, .mv (.t 4), none⟩,
  ⟨some 21, .bin .add (.t 20) (.v (.int .i64 1)), none⟩,
  ⟨some 4, .asg (.t 21), none⟩]
def l1 : AC := .seq (.seq (.reg r5 [0, 3, 4, 19]) (.cond (.t 19) (.skip) (.exit 0))) (.seq (.block 1 (.seq (.reg r7 [0, 3, 4, 31]) (.cond (.t 31) (.seq (.reg r8 [2]) (.ret)) (.skip)))) (.reg r6 [0, 3, 4]))
def r9 : List AO := [⟨some 32, .mv (.t 3), none⟩,
  ⟨some 33, .len true (.t 32), none⟩,
  ⟨some 34, .bin .eql (.t 33) (.v (.int .i64 0)), none⟩,
  ⟨some 35, .mv (.t 34), none⟩,
  ⟨some 36, .mv (.t 3), some (35, false)⟩,
  ⟨some 37, .idxS (.t 36) (.v (.int .i64 0)), some (35, false)⟩,
  ⟨some 38, .bin .eql (.t 37) (.v (.int .u8 48)), some (35, false)⟩,
  ⟨some 39, .mv (.t 38), some (35, false)⟩,
  ⟨some 40, .mv (.t 0), some (39, true)⟩,
  ⟨some 41, .bin .neq (.t 40) (.v (.str [48])), some (39, true)⟩,
  ⟨some 42, .pick (.t 39) (.t 41) (.v (.bool false)), some (35, false)⟩,
  ⟨some 43, .pick (.t 35) (.v (.bool true)) (.t 42), none⟩]
def r10 : List AO := [⟨some 2, .asg (.v (.bool false)), none⟩]
def r11 : List AO := [⟨some 2, .asg (.v (.bool true)), none⟩]
def body : AC := .seq (.reg r0 [0]) (.seq (.reg r1 [0, 3]) (.seq (.seq (.reg r2 [0, 3, 13]) (.cond (.t 13) (.reg r3 [0, 3]) (.skip))) (.seq (.seq (.reg r4 [0, 3, 4]) (.block 0 (.loop [0, 3, 4] l1))) (.seq (.seq (.reg r9 [43]) (.cond (.t 43) (.seq (.reg r10 [2]) (.ret)) (.skip))) (.seq (.reg r11 [2]) (.ret))))))
def fn : AFun := ⟨[.val], 44, [.tmp 2], [], body⟩
end hallmarkref03_Number
namespace hallmarkref03_UTF
def r0 : List AO := [⟨some 2, .asg (.v (.bool false)), none⟩]
def r1 : List AO := [⟨some 3, .asg (.v (.int .i64 0)), none⟩]
def r2 : List AO := [⟨some 5, .mv (.t 3), none⟩,
  ⟨some 6, .mv (.t 0), none⟩,
  ⟨some 7, .len true (.t 6), none⟩,
  ⟨some 8, .bin .lss (.t 5) (.t 7), none⟩]
def r3 : List AO := [⟨some 9, .mv (.t 0), none⟩,
  ⟨some 10, .mv (.t 3), none⟩,
  ⟨some 11, .call .deep (.v (.clo F.hallmarkref03_width [] [])) [.t 9, .t 10], none⟩,
  ⟨some 4, .asg (.t 11), none⟩]
def r4 : List AO := [⟨some 12, .mv (.t 4), none⟩,
  ⟨some 13, .bin .eql (.t 12) (.v (.int .i64 0)), none⟩]
def r5 : List AO := [⟨some 2, .asg (.v (.bool false)), none⟩]
def r6 : List AO := [⟨some 14, .mv (.t 3), none⟩,
  ⟨some 15, .mv (.t 4), none⟩,
  ⟨some 16, .bin .add (.t 14) (.t 15), none⟩,
  ⟨some 3, .asg (.t 16), none⟩]
def l1 : AC := .seq (.seq (.reg r2 [0, 3, 8]) (.cond (.t 8) (.skip) (.exit 0))) (.block 1 (.seq (.reg r3 [0, 3, 4]) (.seq (.seq (.reg r4 [0, 3, 4, 13]) (.cond (.t 13) (.seq (.reg r5 [2]) (.ret)) (.skip))) (.reg r6 [0, 3]))))
def r7 : List AO := [⟨some 2, .asg (.v (.bool true)), none⟩]
def body : AC := .seq (.reg r0 [0]) (.seq (.seq (.reg r1 [0, 3]) (.block 0 (.loop [0, 3] l1))) (.seq (.reg r7 [2]) (.ret)))
def fn : AFun := ⟨[.val], 17, [.tmp 2], [], body⟩
end hallmarkref03_UTF
namespace hallmarkref03_Rise
def r0 : List AO := [⟨some 2, .asg (.v (.bool false)), none⟩]
def r1 : List AO := [⟨some 3, .asg (.v (.int .i64 0)), none⟩]
def r2 : List AO := [⟨some 4, .mv (.t 3), none⟩,
  ⟨some 5, .mv (.t 0), none⟩,
  ⟨some 6, .len false (.t 5), none⟩,
  ⟨some 7, .bin .lss (.t 4) (.t 6), none⟩]
def r4 : List AO := [⟨some 10, .mv (.t 0), none⟩,
  ⟨some 11, .mv (.t 3), none⟩,
  ⟨some 12, .iadr 1 (.t 10) (.t 11), none⟩,
  ⟨some 13, .load 1 false (.t 12), none⟩,
  ⟨some 14, .call .deep (.v (.clo F.hallmarkref03_UTF [] [])) [.t 13], none⟩,
  ⟨some 15, .un .not (.t 14), none⟩]
def r5 : List AO := [⟨some 2, .asg (.v (.bool false)), none⟩]
def r6 : List Ph := [.bag false [] [] [(0, ⟨some 16, .mv (.t 3), none⟩),
    (1, ⟨some 17, .bin .gtr (.t 16) (.v (.int .i64 0)), none⟩),
    (2, ⟨some 18, .mv (.t 17), none⟩),
    (3, ⟨some 19, .mv (.t 0), some (18, true)⟩),
    (4, ⟨some 20, .mv (.t 3), some (18, true)⟩),
    (5, ⟨some 21, .bin .sub (.t 20) (.v (.int .i64 1)), some (18, true)⟩),
    (6, ⟨some 22, .iadr 1 (.t 19) (.t 21), some (18, true)⟩),
    (7, ⟨some 23, .load 1 false (.t 22), some (18, true)⟩),
    (8, ⟨some 24, .mv (.t 0), some (18, true)⟩),
    (9, ⟨some 25, .mv (.t 3), some (18, true)⟩),
    (10, ⟨some 26, .iadr 1 (.t 24) (.t 25), some (18, true)⟩),
    (11, ⟨some 27, .load 1 false (.t 26), some (18, true)⟩),
    (12, ⟨some 28, .bin .geq (.t 23) (.t 27), some (18, true)⟩),
    (13, ⟨some 29, .pick (.t 18) (.t 28) (.v (.bool false)), none⟩)]]
def r7 : List AO := [⟨some 2, .asg (.v (.bool false)), none⟩]
def r3 : List AO := [⟨some 8, .mv (.t 3), none⟩,
  ⟨some 9, .bin .add (.t 8) (.v (.int .i64 1)), none⟩,
  ⟨some 3, .asg (.t 9), none⟩]
def l1 : AC := .seq (.seq (.reg r2 [0, 3, 7]) (.cond (.t 7) (.skip) (.exit 0))) (.seq (.block 1 (.seq (.seq (.reg r4 [0, 3, 15]) (.cond (.t 15) (.seq (.reg r5 [2]) (.ret)) (.skip))) (.seq (.dreg r6 [0, 3, 29]) (.cond (.t 29) (.seq (.reg r7 [2]) (.ret)) (.skip))))) (.reg r3 [0, 3]))
def r8 : List AO := [⟨some 2, .asg (.v (.bool true)), none⟩]
def body : AC := .seq (.reg r0 [0]) (.seq (.seq (.reg r1 [0, 3]) (.block 0 (.loop [0, 3] l1))) (.seq (.reg r8 [2]) (.ret)))
def fn : AFun := ⟨[.val], 30, [.tmp 2], [], body⟩
end hallmarkref03_Rise
namespace hallmarkref03_width
def r0 : List AO := [⟨some 4, .asg (.v (.int .i64 0)), none⟩]
def r1 : List AO := [⟨some 8, .mv (.t 0), none⟩,
  ⟨some 9, .mv (.t 1), none⟩,
  ⟨some 10, .idxS (.t 8) (.t 9), none⟩,
  ⟨some 5, .asg (.t 10), none⟩]
def r2 : List AO := [⟨some 11, .mv (.t 5), none⟩,
  ⟨some 12, .bin .lss (.t 11) (.v (.int .u8 128)), none⟩]
def r3 : List AO := [⟨some 4, .asg (.v (.int .i64 1)), none⟩]
def r4 : List AO := [⟨some 13, .mv (.t 5), none⟩,
  ⟨some 14, .bin .geq (.t 13) (.v (.int .u8 194)), none⟩,
  ⟨some 15, .mv (.t 14), none⟩,
  ⟨some 16, .mv (.t 5), some (15, true)⟩,
  ⟨some 17, .bin .leq (.t 16) (.v (.int .u8 223)), some (15, true)⟩,
  ⟨some 18, .pick (.t 15) (.t 17) (.v (.bool false)), none⟩,
  ⟨some 19, .mv (.t 18), none⟩,
  ⟨some 20, .mv (.t 0), some (19, true)⟩,
  ⟨some 21, .mv (.t 1), some (19, true)⟩,
  ⟨some 22, .bin .add (.t 21) (.v (.int .i64 1)), some (19, true)⟩,
  ⟨some 23, .call .deep (.v (.clo F.hallmarkref03_trail [] [])) [.t 20, .t 22, .v (.int .i64 1), .v (.int .u8 128), .v (.int .u8 191)], some (19, true)⟩,
  ⟨some 24, .pick (.t 19) (.t 23) (.v (.bool false)), none⟩]
def r5 : List AO := [⟨some 4, .asg (.v (.int .i64 2)), none⟩]
def r6 : List AO := [⟨some 6, .asg (.v (.int .u8 128)), none⟩]
def r7 : List AO := [⟨some 7, .asg (.v (.int .u8 191)), none⟩]
def r8 : List AO := [⟨some 25, .mv (.t 5), none⟩,
  ⟨some 26, .bin .eql (.t 25) (.v (.int .u8 224)), none⟩]
def r9 : List AO := [⟨some 6, .asg (.v (.int .u8 160)), none⟩]
def r10 : List AO := [⟨some 27, .mv (.t 5), none⟩,
  ⟨some 28, .bin .eql (.t 27) (.v (.int .u8 237)), none⟩]
def r11 : List AO := [⟨some 7, .asg (.v (.int .u8 159)), none⟩]
def r12 : List AO := [⟨some 29, .mv (.t 5), none⟩,
  ⟨some 30, .bin .eql (.t 29) (.v (.int .u8 240)), none⟩]
def r13 : List AO := [⟨some 6, .asg (.v (.int .u8 144)), none⟩]
def r14 : List AO := [⟨some 31, .mv (.t 5), none⟩,
  ⟨some 32, .bin .eql (.t 31) (.v (.int .u8 244)), none⟩]
def r15 : List AO := [⟨some 7, .asg (.v (.int .u8 143)), none⟩]
def r16 : List AO := [⟨some 33, .mv (.t 5), none⟩,
  ⟨some 34, .bin .geq (.t 33) (.v (.int .u8 224)), none⟩,
  ⟨some 35, .mv (.t 34), none⟩,
  ⟨some 36, .mv (.t 5), some (35, true)⟩,
  ⟨some 37, .bin .leq (.t 36) (.v (.int .u8 239)), some (35, true)⟩,
  ⟨some 38, .pick (.t 35) (.t 37) (.v (.bool false)), none⟩,
  ⟨some 39, .mv (.t 38), none⟩,
  ⟨some 40, .mv (.t 0), some (39, true)⟩,
  ⟨some 41, .mv (.t 1), some (39, true)⟩,
  ⟨some 42, .bin .add (.t 41) (.v (.int .i64 1)), some (39, true)⟩,
  ⟨some 43, .mv (.t 6), some (39, true)⟩,
  ⟨some 44, .mv (.t 7), some (39, true)⟩,
  ⟨some 45, .call .deep (.v (.clo F.hallmarkref03_trail [] [])) [.t 40, .t 42, .v (.int .i64 2), .t 43, .t 44], some (39, true)⟩,
  ⟨some 46, .pick (.t 39) (.t 45) (.v (.bool false)), none⟩]
def r17 : List AO := [⟨some 4, .asg (.v (.int .i64 3)), none⟩]
def r18 : List AO := [⟨some 47, .mv (.t 5), none⟩,
  ⟨some 48, .bin .geq (.t 47) (.v (.int .u8 240)), none⟩,
  ⟨some 49, .mv (.t 48), none⟩,
  ⟨some 50, .mv (.t 5), some (49, true)⟩,
  ⟨some 51, .bin .leq (.t 50) (.v (.int .u8 244)), some (49, true)⟩,
  ⟨some 52, .pick (.t 49) (.t 51) (.v (.bool false)), none⟩,
  ⟨some 53, .mv (.t 52), none⟩,
  ⟨some 54, .mv (.t 0), some (53, true)⟩,
  ⟨some 55, .mv (.t 1), some (53, true)⟩,
  ⟨some 56, .bin .add (.t 55) (.v (.int .i64 1)), some (53, true)⟩,
  ⟨some 57, .mv (.t 6), some (53, true)⟩,
  ⟨some 58, .mv (.t 7), some (53, true)⟩,
  ⟨some 59, .call .deep (.v (.clo F.hallmarkref03_trail [] [])) [.t 54, .t 56, .v (.int .i64 3), .t 57, .t 58], some (53, true)⟩,
  ⟨some 60, .pick (.t 53) (.t 59) (.v (.bool false)), none⟩]
def r19 : List AO := [⟨some 4, .asg (.v (.int .i64 4)), none⟩]
def r20 : List AO := [⟨some 4, .asg (.v (.int .i64 0)), none⟩]
def body : AC := .seq (.reg r0 [0, 1]) (.seq (.reg r1 [0, 1, 5]) (.seq (.seq (.reg r2 [0, 1, 5, 12]) (.cond (.t 12) (.seq (.reg r3 [4]) (.ret)) (.skip))) (.seq (.seq (.reg r4 [0, 1, 5, 24]) (.cond (.t 24) (.seq (.reg r5 [4]) (.ret)) (.skip))) (.seq (.reg r6 [0, 1, 5, 6]) (.seq (.reg r7 [0, 1, 5, 6, 7]) (.seq (.seq (.reg r8 [0, 1, 5, 6, 7, 26]) (.cond (.t 26) (.reg r9 [0, 1, 5, 6, 7]) (.skip))) (.seq (.seq (.reg r10 [0, 1, 5, 6, 7, 28]) (.cond (.t 28) (.reg r11 [0, 1, 5, 6, 7]) (.skip))) (.seq (.seq (.reg r12 [0, 1, 5, 6, 7, 30]) (.cond (.t 30) (.reg r13 [0, 1, 5, 6, 7]) (.skip))) (.seq (.seq (.reg r14 [0, 1, 5, 6, 7, 32]) (.cond (.t 32) (.reg r15 [0, 1, 5, 6, 7]) (.skip))) (.seq (.seq (.reg r16 [0, 1, 5, 6, 7, 46]) (.cond (.t 46) (.seq (.reg r17 [4]) (.ret)) (.skip))) (.seq (.seq (.reg r18 [60]) (.cond (.t 60) (.seq (.reg r19 [4]) (.ret)) (.skip))) (.seq (.reg r20 [4]) (.ret)))))))))))))
def fn : AFun := ⟨[.val, .val], 61, [.tmp 4], [], body⟩
end hallmarkref03_width
namespace hallmarkref03_trail
def r0 : List AO := [⟨some 10, .asg (.v (.bool false)), none⟩]
def r1 : List AO := [⟨some 12, .mv (.t 1), none⟩,
  ⟨some 13, .mv (.t 2), none⟩,
  ⟨some 14, .bin .add (.t 12) (.t 13), none⟩,
  ⟨some 15, .mv (.t 0), none⟩,
  ⟨some 16, .len true (.t 15), none⟩,
  ⟨some 17, .bin .gtr (.t 14) (.t 16), none⟩]
def r2 : List AO := [⟨some 10, .asg (.v (.bool false)), none⟩]
def r3 : List AO := [⟨some 11, .asg (.v (.int .i64 0)), none⟩]
def r4 : List AO := [⟨some 18, .mv (.t 11), none⟩,
  ⟨some 19, .mv (.t 2), none⟩,
  ⟨some 20, .bin .lss (.t 18) (.t 19), none⟩]
def r6 : List AO := [⟨some 23, .mv (.t 0), none⟩,
  ⟨some 24, .mv (.t 1), none⟩,
  ⟨some 25, .mv (.t 11), none⟩,
  ⟨some 26, .bin .add (.t 24) (.t 25), none⟩,
  ⟨some 27, .idxS (.t 23) (.t 26), none⟩,
  ⟨some 28, .bin .lss (.t 27) (.v (.int .u8 128)), none⟩,
  ⟨some 29, .mv (.t 28), none⟩,
  ⟨some 30, .mv (.t 0), some (29, false)⟩,
  ⟨some 31, .mv (.t 1), some (29, false)⟩,
  ⟨some 32, .mv (.t 11), some (29, false)⟩,
  ⟨some 33, .bin .add (.t 31) (.t 32), some (29, false)⟩,
  ⟨some 34, .idxS (.t 30) (.t 33), some (29, false)⟩,
  ⟨some 35, .bin .gtr (.t 34) (.v (.int .u8 191)), some (29, false)⟩,
  ⟨some 36, .pick (.t 29) (.v (.bool true)) (.t 35), none⟩]
def r7 : List AO := [⟨some 10, .asg (.v (.bool false)), none⟩]
def r5 : List AO := [⟨some 21, .mv (.t 11), none⟩,
  ⟨some 22, .bin .add (.t 21) (.v (.int .i64 1)), none⟩,
  ⟨some 11, .asg (.t 22), none⟩]
def l1 : AC := .seq (.seq (.reg r4 [0, 1, 2, 3, 4, 11, 20]) (.cond (.t 20) (.skip) (.exit 0))) (.seq (.block 1 (.seq (.reg r6 [0, 1, 2, 3, 4, 11, 36]) (.cond (.t 36) (.seq (.reg r7 [10]) (.ret)) (.skip)))) (.reg r5 [0, 1, 2, 3, 4, 11]))
def r8 : List AO := [⟨some 37, .mv (.t 0), none⟩,
  ⟨some 38, .mv (.t 1), none⟩,
  ⟨some 39, .idxS (.t 37) (.t 38), none⟩,
  ⟨some 40, .mv (.t 3), none⟩,
  ⟨some 41, .bin .geq (.t 39) (.t 40), none⟩,
  ⟨some 42, .mv (.t 41), none⟩,
  ⟨some 43, .mv (.t 0), some (42, true)⟩,
  ⟨some 44, .mv (.t 1), some (42, true)⟩,
  ⟨some 45, .idxS (.t 43) (.t 44), some (42, true)⟩,
  ⟨some 46, .mv (.t 4), some (42, true)⟩,
  ⟨some 47, .bin .leq (.t 45) (.t 46), some (42, true)⟩,
  ⟨some 48, .pick (.t 42) (.t 47) (.v (.bool false)), none⟩,
  ⟨some 10, .asg (.t 48), none⟩]
def body : AC := .seq (.reg r0 [0, 1, 2, 3, 4]) (.seq (.seq (.reg r1 [0, 1, 2, 3, 4, 17]) (.cond (.t 17) (.seq (.reg r2 [10]) (.ret)) (.skip))) (.seq (.seq (.reg r3 [0, 1, 2, 3, 4, 11]) (.block 0 (.loop [0, 1, 2, 3, 4, 11] l1))) (.seq (.reg r8 [10]) (.ret))))
def fn : AFun := ⟨[.val, .val, .val, .val, .val], 49, [.tmp 10], [], body⟩
end hallmarkref03_trail
namespace hallmarkref03_Numbers
def r0 : List AO := [⟨some 4, .asg (.v (.int .i64 0)), none⟩]
def r1 : List AO := [⟨some 7, .mv (.t 0), none⟩,
  ⟨some 8, .idxS (.t 7) (.v (.int .i64 0)), none⟩,
  ⟨some 9, .bin .eql (.t 8) (.v (.int .u8 45)), none⟩,
  ⟨some 5, .asg (.t 9), none⟩]
def r2 : List AO := [⟨some 10, .mv (.t 1), none⟩,
  ⟨some 11, .idxS (.t 10) (.v (.int .i64 0)), none⟩,
  ⟨some 12, .bin .eql (.t 11) (.v (.int .u8 45)), none⟩,
  ⟨some 6, .asg (.t 12), none⟩]
def r3 : List AO := [⟨some 13, .mv (.t 5), none⟩,
  ⟨some 14, .mv (.t 13), none⟩,
  ⟨some 15, .mv (.t 6), some (14, true)⟩,
  ⟨some 16, .un .not (.t 15), some (14, true)⟩,
  ⟨some 17, .pick (.t 14) (.t 16) (.v (.bool false)), none⟩]
def r4 : List AO := [⟨some 4, .asg (.v (.int .i64 (-1))), none⟩]
def r5 : List AO := [⟨some 18, .mv (.t 6), none⟩,
  ⟨some 19, .mv (.t 18), none⟩,
  ⟨some 20, .mv (.t 5), some (19, true)⟩,
  ⟨some 21, .un .not (.t 20), some (19, true)⟩,
  ⟨some 22, .pick (.t 19) (.t 21) (.v (.bool false)), none⟩]
def r6 : List AO := [⟨some 4, .asg (.v (.int .i64 1)), none⟩]
def r7 : List AO := [⟨some 23, .mv (.t 5), none⟩]
def r8 : List Ph := [.bag false [] [0, 1] [(0, ⟨some 24, .mv (.t 1), none⟩),
    (1, ⟨some 25, .slc true 1 (.t 24) (some (.v (.int .i64 1))) none, none⟩),
    (2, ⟨some 26, .mv (.t 0), none⟩),
    (3, ⟨some 27, .slc true 1 (.t 26) (some (.v (.int .i64 1))) none, none⟩),
    (4, ⟨some 28, .call .deep (.v (.clo F.hallmarkref03_Numbers [] [])) [.t 25, .t 27], none⟩),
    (5, ⟨some 4, .asg (.t 28), none⟩)]]
def r9 : List AO := [⟨some 29, .mv (.t 0), none⟩,
  ⟨some 30, .len true (.t 29), none⟩,
  ⟨some 31, .mv (.t 1), none⟩,
  ⟨some 32, .len true (.t 31), none⟩,
  ⟨some 33, .bin .neq (.t 30) (.t 32), none⟩]
def r10 : List AO := [⟨some 34, .mv (.t 0), none⟩,
  ⟨some 35, .len true (.t 34), none⟩,
  ⟨some 36, .mv (.t 1), none⟩,
  ⟨some 37, .len true (.t 36), none⟩,
  ⟨some 38, .bin .lss (.t 35) (.t 37), none⟩]
def r11 : List AO := [⟨some 4, .asg (.v (.int .i64 (-1))), none⟩]
def r12 : List AO := [⟨some 4, .asg (.v (.int .i64 1)), none⟩]
def r13 : List AO := [⟨some 39, .mv (.t 0), none⟩,
  ⟨some 40, .mv (.t 1), none⟩,
  ⟨some 41, .call .deep (.v (.clo F.hallmarkref03_Texts [] [])) [.t 39, .t 40], none⟩,
  ⟨some 4, .asg (.t 41), none⟩]
def body : AC := .seq (.reg r0 [0, 1]) (.seq (.reg r1 [0, 1, 5]) (.seq (.reg r2 [0, 1, 5, 6]) (.seq (.seq (.reg r3 [0, 1, 5, 6, 17]) (.cond (.t 17) (.seq (.reg r4 [4]) (.ret)) (.skip))) (.seq (.seq (.reg r5 [0, 1, 5, 22]) (.cond (.t 22) (.seq (.reg r6 [4]) (.ret)) (.skip))) (.seq (.seq (.reg r7 [0, 1, 23]) (.cond (.t 23) (.seq (.dreg r8 [4]) (.ret)) (.skip))) (.seq (.seq (.reg r9 [0, 1, 33]) (.cond (.t 33) (.seq (.seq (.reg r10 [38]) (.cond (.t 38) (.seq (.reg r11 [4]) (.ret)) (.skip))) (.seq (.reg r12 [4]) (.ret))) (.skip))) (.seq (.reg r13 [4]) (.ret))))))))
def fn : AFun := ⟨[.val, .val], 42, [.tmp 4], [], body⟩
end hallmarkref03_Numbers
namespace hallmarkref03_Texts
def r0 : List AO := [⟨some 4, .asg (.v (.int .i64 0)), none⟩]
def r1 : List AO := [⟨some 5, .mv (.t 0), none⟩,
  ⟨some 6, .mv (.t 1), none⟩,
  ⟨some 7, .bin .lss (.t 5) (.t 6), none⟩]
def r2 : List AO := [⟨some 4, .asg (.v (.int .i64 (-1))), none⟩]
def r3 : List AO := [⟨some 8, .mv (.t 0), none⟩,
  ⟨some 9, .mv (.t 1), none⟩,
  ⟨some 10, .bin .gtr (.t 8) (.t 9), none⟩]
def r4 : List AO := [⟨some 4, .asg (.v (.int .i64 1)), none⟩]
def r5 : List AO := [⟨some 4, .asg (.v (.int .i64 0)), none⟩]
def body : AC := .seq (.reg r0 [0, 1]) (.seq (.seq (.reg r1 [0, 1, 7]) (.cond (.t 7) (.seq (.reg r2 [4]) (.ret)) (.skip))) (.seq (.seq (.reg r3 [10]) (.cond (.t 10) (.seq (.reg r4 [4]) (.ret)) (.skip))) (.seq (.reg r5 [4]) (.ret))))
def fn : AFun := ⟨[.val, .val], 11, [.tmp 4], [], body⟩
end hallmarkref03_Texts
namespace hallmarklaw09_ShapeHeight
def r0 : List AO := [⟨some 1, .box (.t 0), none⟩,
  ⟨some 2, .asg (.v (.bool false)), none⟩]
def r1 : List AO := [⟨some 3, .build [.own 1 [], .own 9 [], .own 1 [], .av (.bool false), .av (.bool false), .av (.bool false), .av (.bool false), .own 2 [], .av (.bool false), .own 1 [], .own 11 [], .own 12 []] [], none⟩,
  ⟨some 4, .buildS 1 12 [.own 1 [], .own 9 [], .own 1 [], .av (.bool false), .av (.bool false), .av (.bool false), .av (.bool false), .own 2 [], .av (.bool false), .own 1 [], .own 11 [], .own 12 []] [(0, 12, .t 3)], none⟩,
  ⟨some 5, .build [.av (.bool false), .av (.bool false), .av (.bool false), .av (.bool false), .own 2 [], .av (.bool false), .own 1 [], .own 11 [], .own 12 []] [(8, 1, .t 4)], none⟩,
  ⟨some 6, .call .deep (.v (.clo F.shape_Height [] [])) [.t 5], none⟩,
  ⟨some 7, .bin .neq (.t 6) (.v (.int .i64 1)), none⟩]
def r2 : List AO := [⟨some 2, .asg (.v (.bool false)), none⟩]
def r3 : List Ph := [.bag false [] [8, 12, 17, 19] [(0, ⟨some 8, .load 9 true (.t 1), none⟩),
    (1, ⟨some 9, .call .deep (.v (.clo F.hallmarkkit_FitType [] [])) [.t 8], none⟩),
    (2, ⟨some 10, .un .not (.t 9), none⟩),
    (3, ⟨some 11, .mv (.t 10), none⟩),
    (4, ⟨some 12, .load 9 true (.t 1), some (11, false)⟩),
    (5, ⟨some 13, .call .deep (.v (.clo F.hallmarkref09_Formed [] [])) [.t 12], some (11, false)⟩),
    (6, ⟨some 14, .un .not (.t 13), some (11, false)⟩),
    (7, ⟨some 15, .pick (.t 11) (.v (.bool true)) (.t 14), none⟩),
    (8, ⟨some 16, .mv (.t 15), none⟩),
    (9, ⟨some 17, .load 9 true (.t 1), some (16, false)⟩),
    (10, ⟨some 18, .call .deep (.v (.clo F.shape_Height [] [])) [.t 17], some (16, false)⟩),
    (11, ⟨some 19, .load 9 true (.t 1), some (16, false)⟩),
    (12, ⟨some 20, .call .deep (.v (.clo F.hallmarkref09_Height [] [])) [.t 19], some (16, false)⟩),
    (13, ⟨some 21, .bin .eql (.t 18) (.t 20), some (16, false)⟩),
    (14, ⟨some 22, .pick (.t 16) (.v (.bool true)) (.t 21), none⟩),
    (15, ⟨some 2, .asg (.t 22), none⟩)]]
def body : AC := .seq (.reg r0 [1]) (.seq (.seq (.reg r1 [1, 7]) (.cond (.t 7) (.seq (.reg r2 [2]) (.ret)) (.skip))) (.seq (.dreg r3 [2]) (.ret)))
def fn : AFun := ⟨[.val], 23, [.tmp 2], [], body⟩
end hallmarklaw09_ShapeHeight
namespace shape_Height
def r0 : List AO := [⟨some 1, .box (.t 0), none⟩,
  ⟨some 2, .asg (.v (.int .i64 0)), none⟩]
def r1 : List AO := [⟨some 3, .asg (.v (.int .i64 (-1))), none⟩]
def r2 : List AO := [⟨some 10, .fadr 7 (.t 1), none⟩,
  ⟨some 11, .load 1 false (.t 10), none⟩,
  ⟨some 12, .len false (.t 11), none⟩,
  ⟨some 13, .mv (.v (.int .i64 0)), none⟩]
def r3 : List AO := [⟨some 14, .bin .lss (.t 13) (.t 12), none⟩]
def r4 : List AO := [⟨some 15, .iadr 11 (.t 11) (.t 13), none⟩,
  ⟨some 16, .load 11 true (.t 15), none⟩,
  ⟨some 5, .alloc [.av (.bool false), .av (.bool false), .av (.bool false), .av (.bool false), .own 2 [], .av (.bool false), .own 1 [], .own 11 [], .own 12 [], .av (.int .i64 0), .av (.int .i64 0)], none⟩,
  ⟨none, .store 11 (.t 5) (.t 16), none⟩]
def r5 : List AO := [⟨some 17, .mv (.t 3), none⟩,
  ⟨some 18, .fadr 0 (.t 5), none⟩,
  ⟨some 19, .take 9 true (.t 18), none⟩,
  ⟨some 20, .call .deep (.v (.clo F.shape_Height [] [])) [.t 19], none⟩,
  ⟨some 21, .mm true [.t 17, .t 20], none⟩,
  ⟨some 3, .asg (.t 21), none⟩]
def r6 : List AO := [⟨some 22, .bin .add (.t 13) (.v (.int .i64 1)), none⟩,
  ⟨some 13, .mv (.t 22), none⟩]
def l1 : AC := .seq (.reg r3 [1, 3, 11, 12, 13, 14]) (.seq (.cond (.t 14) (.skip) (.exit 0)) (.seq (.block 1 (.seq (.reg r4 [1, 3, 5, 11, 12, 13]) (.reg r5 [1, 3, 11, 12, 13]))) (.reg r6 [1, 3, 11, 12, 13])))
def r7 : List AO := [⟨some 23, .fadr 8 (.t 1), none⟩,
  ⟨some 24, .take 1 false (.t 23), none⟩,
  ⟨some 25, .len false (.t 24), none⟩,
  ⟨some 26, .mv (.v (.int .i64 0)), none⟩]
def r8 : List AO := [⟨some 27, .bin .lss (.t 26) (.t 25), none⟩]
def r9 : List AO := [⟨some 28, .iadr 12 (.t 24) (.t 26), none⟩,
  ⟨some 29, .load 12 true (.t 28), none⟩,
  ⟨some 7, .alloc [.own 1 [], .own 9 [], .own 1 [], .av (.bool false), .av (.bool false), .av (.bool false), .av (.bool false), .own 2 [], .av (.bool false), .own 1 [], .own 11 [], .own 12 []], none⟩,
  ⟨none, .store 12 (.t 7) (.t 29), none⟩]
def r10 : List AO := [⟨some 30, .mv (.t 3), none⟩,
  ⟨some 31, .fadr 3 (.t 7), none⟩,
  ⟨some 32, .load 9 true (.t 31), none⟩,
  ⟨some 33, .call .deep (.v (.clo F.shape_Height [] [])) [.t 32], none⟩,
  ⟨some 34, .mm true [.t 30, .t 33], none⟩,
  ⟨some 3, .asg (.t 34), none⟩]
def r11 : List AO := [⟨some 35, .fadr 1 (.t 7), none⟩,
  ⟨some 36, .take 1 false (.t 35), none⟩,
  ⟨some 37, .len false (.t 36), none⟩,
  ⟨some 38, .mv (.v (.int .i64 0)), none⟩]
def r12 : List AO := [⟨some 39, .bin .lss (.t 38) (.t 37), none⟩]
def r13 : List AO := [⟨some 40, .iadr 9 (.t 36) (.t 38), none⟩,
  ⟨some 41, .load 9 true (.t 40), none⟩,
  ⟨some 9, .alloc [.av (.bool false), .av (.bool false), .av (.bool false), .av (.bool false), .own 2 [], .av (.bool false), .own 1 [], .own 11 [], .own 12 []], none⟩,
  ⟨none, .store 9 (.t 9) (.t 41), none⟩]
def r14 : List AO := [⟨some 42, .mv (.t 3), none⟩,
  ⟨some 43, .take 9 true (.t 9), none⟩,
  ⟨some 44, .call .deep (.v (.clo F.shape_Height [] [])) [.t 43], none⟩,
  ⟨some 45, .mm true [.t 42, .t 44], none⟩,
  ⟨some 3, .asg (.t 45), none⟩]
def r15 : List AO := [⟨some 46, .bin .add (.t 38) (.v (.int .i64 1)), none⟩,
  ⟨some 38, .mv (.t 46), none⟩]
def l3 : AC := .seq (.reg r12 [3, 24, 25, 26, 36, 37, 38, 39]) (.seq (.cond (.t 39) (.skip) (.exit 4)) (.seq (.block 5 (.seq (.reg r13 [3, 9, 24, 25, 26, 36, 37, 38]) (.reg r14 [3, 24, 25, 26, 36, 37, 38]))) (.reg r15 [3, 24, 25, 26, 36, 37, 38])))
def r16 : List AO := [⟨some 47, .bin .add (.t 26) (.v (.int .i64 1)), none⟩,
  ⟨some 26, .mv (.t 47), none⟩]
def l2 : AC := .seq (.reg r8 [3, 24, 25, 26, 27]) (.seq (.cond (.t 27) (.skip) (.exit 2)) (.seq (.block 3 (.seq (.reg r9 [3, 7, 24, 25, 26]) (.seq (.reg r10 [3, 7, 24, 25, 26]) (.seq (.reg r11 [3, 24, 25, 26, 36, 37, 38]) (.block 4 (.loop [3, 24, 25, 26, 36, 37, 38] l3)))))) (.reg r16 [3, 24, 25, 26])))
def r17 : List AO := [⟨some 48, .mv (.t 3), none⟩,
  ⟨some 49, .bin .add (.t 48) (.v (.int .i64 1)), none⟩,
  ⟨some 2, .asg (.t 49), none⟩]
def body : AC := .seq (.reg r0 [1]) (.seq (.reg r1 [1, 3]) (.seq (.seq (.reg r2 [1, 3, 11, 12, 13]) (.block 0 (.loop [1, 3, 11, 12, 13] l1))) (.seq (.seq (.reg r7 [3, 24, 25, 26]) (.block 2 (.loop [3, 24, 25, 26] l2))) (.seq (.reg r17 [2]) (.ret)))))
def fn : AFun := ⟨[.val], 50, [.tmp 2], [], body⟩
end shape_Height
namespace hallmarkkit_FitType
def r0 : List AO := [⟨some 1, .box (.t 0), none⟩,
  ⟨some 2, .asg (.v (.bool false)), none⟩]
def r1 : List AO := [⟨some 3, .take 9 true (.t 1), none⟩,
  ⟨some 4, .call .deep (.v (.clo F.hallmarkkit_typeParts [] [])) [.t 3, .v (.int .i64 20000)], none⟩,
  ⟨some 5, .bin .leq (.t 4) (.v (.int .i64 20000)), none⟩,
  ⟨some 2, .asg (.t 5), none⟩]
def body : AC := .seq (.reg r0 [1]) (.seq (.reg r1 [2]) (.ret))
def fn : AFun := ⟨[.val], 6, [.tmp 2], [], body⟩
end hallmarkkit_FitType
namespace hallmarkref09_Formed
def r0 : List AO := [⟨some 1, .box (.t 0), none⟩,
  ⟨some 2, .asg (.v (.bool false)), none⟩]
def r1 : List AO := [⟨some 3, .fadr 0 (.t 1), none⟩,
  ⟨some 4, .load 1 false (.t 3), none⟩,
  ⟨some 5, .mv (.t 4), none⟩,
  ⟨some 6, .load 9 true (.t 1), some (5, true)⟩,
  ⟨some 7, .call .deep (.v (.clo F.hallmarkref09_Bare [] [])) [.t 6], some (5, true)⟩,
  ⟨some 8, .un .not (.t 7), some (5, true)⟩,
  ⟨some 9, .pick (.t 5) (.t 8) (.v (.bool false)), none⟩]
def r2 : List AO := [⟨some 2, .asg (.v (.bool false)), none⟩]
def r3 : List AO := [⟨some 10, .fadr 6 (.t 1), none⟩,
  ⟨some 11, .load 1 false (.t 10), none⟩,
  ⟨some 12, .call .deep (.v (.clo F.hallmarkref03_Rise [] [])) [.t 11], none⟩,
  ⟨some 13, .un .not (.t 12), none⟩,
  ⟨some 14, .mv (.t 13), none⟩,
  ⟨some 15, .fadr 5 (.t 1), some (14, false)⟩,
  ⟨some 16, .load 1 false (.t 15), some (14, false)⟩,
  ⟨some 17, .mv (.t 16), some (14, false)⟩,
  ⟨some 18, .fadr 6 (.t 1), some (17, true)⟩,
  ⟨some 19, .load 1 false (.t 18), some (17, true)⟩,
  ⟨some 20, .len false (.t 19), some (17, true)⟩,
  ⟨some 21, .bin .gtr (.t 20) (.v (.int .i64 0)), some (17, true)⟩,
  ⟨some 22, .pick (.t 17) (.t 21) (.v (.bool false)), some (14, false)⟩,
  ⟨some 23, .pick (.t 14) (.v (.bool true)) (.t 22), none⟩]
def r4 : List AO := [⟨some 2, .asg (.v (.bool false)), none⟩]
def r5 : List AO := [⟨some 24, .fadr 4 (.t 1), none⟩,
  ⟨some 25, .load 1 false (.t 24), none⟩,
  ⟨some 26, .call .deep (.v (.clo F.hallmarkref09_Spans [] [])) [.t 25], none⟩,
  ⟨some 27, .mv (.t 26), none⟩,
  ⟨some 28, .fadr 7 (.t 1), some (27, true)⟩,
  ⟨some 29, .load 1 false (.t 28), some (27, true)⟩,
  ⟨some 30, .call .deep (.v (.clo F.hallmarkref09_arrays [] [])) [.t 29], some (27, true)⟩,
  ⟨some 31, .pick (.t 27) (.t 30) (.v (.bool false)), none⟩,
  ⟨some 32, .mv (.t 31), none⟩,
  ⟨some 33, .fadr 8 (.t 1), some (32, true)⟩,
  ⟨some 34, .take 1 false (.t 33), some (32, true)⟩,
  ⟨some 35, .call .deep (.v (.clo F.hallmarkref09_objects [] [])) [.t 34], some (32, true)⟩,
  ⟨some 36, .pick (.t 32) (.t 35) (.v (.bool false)), none⟩,
  ⟨some 2, .asg (.t 36), none⟩]
def body : AC := .seq (.reg r0 [1]) (.seq (.seq (.reg r1 [1, 9]) (.cond (.t 9) (.seq (.reg r2 [2]) (.ret)) (.skip))) (.seq (.seq (.reg r3 [1, 23]) (.cond (.t 23) (.seq (.reg r4 [2]) (.ret)) (.skip))) (.seq (.reg r5 [2]) (.ret))))
def fn : AFun := ⟨[.val], 37, [.tmp 2], [], body⟩
end hallmarkref09_Formed
namespace hallmarkref09_Height
def r0 : List AO := [⟨some 1, .box (.t 0), none⟩,
  ⟨some 2, .asg (.v (.int .i64 0)), none⟩]
def r1 : List AO := [⟨some 3, .asg (.v (.int .i64 0)), none⟩]
def r2 : List AO := [⟨some 4, .asg (.v (.int .i64 0)), none⟩]
def r3 : List AO := [⟨some 7, .mv (.t 4), none⟩,
  ⟨some 8, .fadr 7 (.t 1), none⟩,
  ⟨some 9, .load 1 false (.t 8), none⟩,
  ⟨some 10, .len false (.t 9), none⟩,
  ⟨some 11, .bin .lss (.t 7) (.t 10), none⟩]
def r5 : List AO := [⟨some 14, .mv (.t 3), none⟩,
  ⟨some 15, .fadr 7 (.t 1), none⟩,
  ⟨some 16, .load 1 false (.t 15), none⟩,
  ⟨some 17, .mv (.t 4), none⟩,
  ⟨some 18, .iadr 11 (.t 16) (.t 17), none⟩,
  ⟨some 19, .fadr 0 (.t 18), none⟩,
  ⟨some 20, .load 9 true (.t 19), none⟩,
  ⟨some 21, .call .deep (.v (.clo F.hallmarkref09_higher [] [])) [.t 14, .t 20], none⟩,
  ⟨some 3, .asg (.t 21), none⟩]
def r4 : List AO := [⟨some 12, .mv (.t 4), none⟩,
  ⟨some 13, .bin .add (.t 12) (.v (.int .i64 1)), none⟩,
  ⟨some 4, .asg (.t 13), none⟩]
def l1 : AC := .seq (.seq (.reg r3 [1, 3, 4, 11]) (.cond (.t 11) (.skip) (.exit 0))) (.seq (.block 1 (.reg r5 [1, 3, 4])) (.reg r4 [1, 3, 4]))
def r6 : List AO := [⟨some 5, .asg (.v (.int .i64 0)), none⟩]
def r7 : List AO := [⟨some 22, .mv (.t 5), none⟩,
  ⟨some 23, .fadr 8 (.t 1), none⟩,
  ⟨some 24, .load 1 false (.t 23), none⟩,
  ⟨some 25, .len false (.t 24), none⟩,
  ⟨some 26, .bin .lss (.t 22) (.t 25), none⟩]
def r9 : List AO := [⟨some 29, .mv (.t 3), none⟩,
  ⟨some 30, .fadr 8 (.t 1), none⟩,
  ⟨some 31, .load 1 false (.t 30), none⟩,
  ⟨some 32, .mv (.t 5), none⟩,
  ⟨some 33, .iadr 12 (.t 31) (.t 32), none⟩,
  ⟨some 34, .fadr 3 (.t 33), none⟩,
  ⟨some 35, .load 9 true (.t 34), none⟩,
  ⟨some 36, .call .deep (.v (.clo F.hallmarkref09_higher [] [])) [.t 29, .t 35], none⟩,
  ⟨some 3, .asg (.t 36), none⟩]
def r10 : List AO := [⟨some 6, .asg (.v (.int .i64 0)), none⟩]
def r11 : List AO := [⟨some 37, .mv (.t 6), none⟩,
  ⟨some 38, .fadr 8 (.t 1), none⟩,
  ⟨some 39, .load 1 false (.t 38), none⟩,
  ⟨some 40, .mv (.t 5), none⟩,
  ⟨some 41, .iadr 12 (.t 39) (.t 40), none⟩,
  ⟨some 42, .fadr 1 (.t 41), none⟩,
  ⟨some 43, .load 1 false (.t 42), none⟩,
  ⟨some 44, .len false (.t 43), none⟩,
  ⟨some 45, .bin .lss (.t 37) (.t 44), none⟩]
def r13 : List AO := [⟨some 48, .mv (.t 3), none⟩,
  ⟨some 49, .fadr 8 (.t 1), none⟩,
  ⟨some 50, .load 1 false (.t 49), none⟩,
  ⟨some 51, .mv (.t 5), none⟩,
  ⟨some 52, .iadr 12 (.t 50) (.t 51), none⟩,
  ⟨some 53, .fadr 1 (.t 52), none⟩,
  ⟨some 54, .load 1 false (.t 53), none⟩,
  ⟨some 55, .mv (.t 6), none⟩,
  ⟨some 56, .iadr 9 (.t 54) (.t 55), none⟩,
  ⟨some 57, .load 9 true (.t 56), none⟩,
  ⟨some 58, .call .deep (.v (.clo F.hallmarkref09_higher [] [])) [.t 48, .t 57], none⟩,
  ⟨some 3, .asg (.t 58), none⟩]
def r12 : List AO := [⟨some 46, .mv (.t 6), none⟩,
  ⟨some 47, .bin .add (.t 46) (.v (.int .i64 1)), none⟩,
  ⟨some 6, .asg (.t 47), none⟩]
def l3 : AC := .seq (.seq (.reg r11 [1, 3, 5, 6, 45]) (.cond (.t 45) (.skip) (.exit 4))) (.seq (.block 5 (.reg r13 [1, 3, 5, 6])) (.reg r12 [1, 3, 5, 6]))
def r8 : List AO := [⟨some 27, .mv (.t 5), none⟩,
  ⟨some 28, .bin .add (.t 27) (.v (.int .i64 1)), none⟩,
  ⟨some 5, .asg (.t 28), none⟩]
def l2 : AC := .seq (.seq (.reg r7 [1, 3, 5, 26]) (.cond (.t 26) (.skip) (.exit 2))) (.seq (.block 3 (.seq (.reg r9 [1, 3, 5]) (.seq (.reg r10 [1, 3, 5, 6]) (.block 4 (.loop [1, 3, 5, 6] l3))))) (.reg r8 [1, 3, 5]))
def r14 : List AO := [⟨some 59, .mv (.t 3), none⟩,
  ⟨some 2, .asg (.t 59), none⟩]
def body : AC := .seq (.reg r0 [1]) (.seq (.reg r1 [1, 3]) (.seq (.seq (.reg r2 [1, 3, 4]) (.block 0 (.loop [1, 3, 4] l1))) (.seq (.seq (.reg r6 [1, 3, 5]) (.block 2 (.loop [1, 3, 5] l2))) (.seq (.reg r14 [2]) (.ret)))))
def fn : AFun := ⟨[.val], 60, [.tmp 2], [], body⟩
end hallmarkref09_Height
namespace hallmarkkit_typeParts
def r0 : List AO := [⟨some 2, .box (.t 0), none⟩,
  ⟨some 4, .asg (.v (.int .i64 0)), none⟩]
def r1 : List AO := [⟨some 9, .fadr 6 (.t 2), none⟩,
  ⟨some 10, .load 1 false (.t 9), none⟩,
  ⟨some 11, .len false (.t 10), none⟩,
  ⟨some 12, .bin .add (.v (.int .i64 1)) (.t 11), none⟩,
  ⟨some 13, .fadr 4 (.t 2), none⟩,
  ⟨some 14, .load 1 false (.t 13), none⟩,
  ⟨some 15, .len false (.t 14), none⟩,
  ⟨some 16, .bin .add (.t 12) (.t 15), none⟩,
  ⟨some 5, .asg (.t 16), none⟩]
def r2 : List AO := [⟨some 6, .asg (.v (.int .i64 0)), none⟩]
def r3 : List AO := [⟨some 17, .mv (.t 6), none⟩,
  ⟨some 18, .fadr 7 (.t 2), none⟩,
  ⟨some 19, .load 1 false (.t 18), none⟩,
  ⟨some 20, .len false (.t 19), none⟩,
  ⟨some 21, .bin .lss (.t 17) (.t 20), none⟩,
  ⟨some 22, .mv (.t 21), none⟩,
  ⟨some 23, .mv (.t 5), some (22, true)⟩,
  ⟨some 24, .mv (.t 1), some (22, true)⟩,
  ⟨some 25, .bin .leq (.t 23) (.t 24), some (22, true)⟩,
  ⟨some 26, .pick (.t 22) (.t 25) (.v (.bool false)), none⟩]
def r5 : List AO := [⟨some 29, .mv (.t 5), none⟩,
  ⟨some 30, .fadr 7 (.t 2), none⟩,
  ⟨some 31, .load 1 false (.t 30), none⟩,
  ⟨some 32, .mv (.t 6), none⟩,
  ⟨some 33, .iadr 11 (.t 31) (.t 32), none⟩,
  ⟨some 34, .fadr 0 (.t 33), none⟩,
  ⟨some 35, .load 9 true (.t 34), none⟩,
  ⟨some 36, .mv (.t 1), none⟩,
  ⟨some 37, .mv (.t 5), none⟩,
  ⟨some 38, .bin .sub (.t 36) (.t 37), none⟩,
  ⟨some 39, .call .deep (.v (.clo F.hallmarkkit_typeParts [] [])) [.t 35, .t 38], none⟩,
  ⟨some 40, .bin .add (.t 29) (.t 39), none⟩,
  ⟨some 5, .asg (.t 40), none⟩]
def r4 : List AO := [⟨some 27, .mv (.t 6), none⟩,
  ⟨some 28, .bin .add (.t 27) (.v (.int .i64 1)), none⟩,
  ⟨some 6, .asg (.t 28), none⟩]
def l1 : AC := .seq (.seq (.reg r3 [1, 2, 5, 6, 26]) (.cond (.t 26) (.skip) (.exit 0))) (.seq (.block 1 (.reg r5 [1, 2, 5, 6])) (.reg r4 [1, 2, 5, 6]))
def r6 : List AO := [⟨some 7, .asg (.v (.int .i64 0)), none⟩]
def r7 : List AO := [⟨some 41, .mv (.t 7), none⟩,
  ⟨some 42, .fadr 8 (.t 2), none⟩,
  ⟨some 43, .load 1 false (.t 42), none⟩,
  ⟨some 44, .len false (.t 43), none⟩,
  ⟨some 45, .bin .lss (.t 41) (.t 44), none⟩,
  ⟨some 46, .mv (.t 45), none⟩,
  ⟨some 47, .mv (.t 5), some (46, true)⟩,
  ⟨some 48, .mv (.t 1), some (46, true)⟩,
  ⟨some 49, .bin .leq (.t 47) (.t 48), some (46, true)⟩,
  ⟨some 50, .pick (.t 46) (.t 49) (.v (.bool false)), none⟩]
def r9 : List Ph := [.bag false [] [1, 75] [(0, ⟨some 53, .mv (.t 5), none⟩),
    (1, ⟨some 54, .fadr 8 (.t 2), none⟩),
    (2, ⟨some 55, .load 1 false (.t 54), none⟩),
    (3, ⟨some 56, .mv (.t 7), none⟩),
    (4, ⟨some 57, .iadr 12 (.t 55) (.t 56), none⟩),
    (5, ⟨some 58, .fadr 0 (.t 57), none⟩),
    (6, ⟨some 59, .load 1 false (.t 58), none⟩),
    (7, ⟨some 60, .len false (.t 59), none⟩),
    (8, ⟨some 61, .bin .add (.t 53) (.t 60), none⟩),
    (9, ⟨some 62, .fadr 8 (.t 2), none⟩),
    (10, ⟨some 63, .load 1 false (.t 62), none⟩),
    (11, ⟨some 64, .mv (.t 7), none⟩),
    (12, ⟨some 65, .iadr 12 (.t 63) (.t 64), none⟩),
    (13, ⟨some 66, .fadr 2 (.t 65), none⟩),
    (14, ⟨some 67, .load 1 false (.t 66), none⟩),
    (15, ⟨some 68, .len false (.t 67), none⟩),
    (16, ⟨some 69, .bin .add (.t 61) (.t 68), none⟩),
    (17, ⟨some 70, .fadr 8 (.t 2), none⟩),
    (18, ⟨some 71, .load 1 false (.t 70), none⟩),
    (19, ⟨some 72, .mv (.t 7), none⟩),
    (20, ⟨some 73, .iadr 12 (.t 71) (.t 72), none⟩),
    (21, ⟨some 74, .fadr 3 (.t 73), none⟩),
    (22, ⟨some 75, .load 9 true (.t 74), none⟩),
    (23, ⟨some 76, .mv (.t 1), none⟩),
    (24, ⟨some 77, .mv (.t 5), none⟩),
    (25, ⟨some 78, .bin .sub (.t 76) (.t 77), none⟩),
    (26, ⟨some 79, .call .deep (.v (.clo F.hallmarkkit_typeParts [] [])) [.t 75, .t 78], none⟩),
    (27, ⟨some 80, .bin .add (.t 69) (.t 79), none⟩),
    (28, ⟨some 5, .asg (.t 80), none⟩)]]
def r10 : List AO := [⟨some 8, .asg (.v (.int .i64 0)), none⟩]
def r11 : List AO := [⟨some 81, .mv (.t 8), none⟩,
  ⟨some 82, .fadr 8 (.t 2), none⟩,
  ⟨some 83, .load 1 false (.t 82), none⟩,
  ⟨some 84, .mv (.t 7), none⟩,
  ⟨some 85, .iadr 12 (.t 83) (.t 84), none⟩,
  ⟨some 86, .fadr 1 (.t 85), none⟩,
  ⟨some 87, .load 1 false (.t 86), none⟩,
  ⟨some 88, .len false (.t 87), none⟩,
  ⟨some 89, .bin .lss (.t 81) (.t 88), none⟩,
  ⟨some 90, .mv (.t 89), none⟩,
  ⟨some 91, .mv (.t 5), some (90, true)⟩,
  ⟨some 92, .mv (.t 1), some (90, true)⟩,
  ⟨some 93, .bin .leq (.t 91) (.t 92), some (90, true)⟩,
  ⟨some 94, .pick (.t 90) (.t 93) (.v (.bool false)), none⟩]
def r13 : List AO := [⟨some 97, .mv (.t 5), none⟩,
  ⟨some 98, .fadr 8 (.t 2), none⟩,
  ⟨some 99, .load 1 false (.t 98), none⟩,
  ⟨some 100, .mv (.t 7), none⟩,
  ⟨some 101, .iadr 12 (.t 99) (.t 100), none⟩,
  ⟨some 102, .fadr 1 (.t 101), none⟩,
  ⟨some 103, .load 1 false (.t 102), none⟩,
  ⟨some 104, .mv (.t 8), none⟩,
  ⟨some 105, .iadr 9 (.t 103) (.t 104), none⟩,
  ⟨some 106, .load 9 true (.t 105), none⟩,
  ⟨some 107, .mv (.t 1), none⟩,
  ⟨some 108, .mv (.t 5), none⟩,
  ⟨some 109, .bin .sub (.t 107) (.t 108), none⟩,
  ⟨some 110, .call .deep (.v (.clo F.hallmarkkit_typeParts [] [])) [.t 106, .t 109], none⟩,
  ⟨some 111, .bin .add (.t 97) (.t 110), none⟩,
  ⟨some 5, .asg (.t 111), none⟩]
def r12 : List AO := [⟨some 95, .mv (.t 8), none⟩,
  ⟨some 96, .bin .add (.t 95) (.v (.int .i64 1)), none⟩,
  ⟨some 8, .asg (.t 96), none⟩]
def l3 : AC := .seq (.seq (.reg r11 [1, 2, 5, 7, 8, 94]) (.cond (.t 94) (.skip) (.exit 4))) (.seq (.block 5 (.reg r13 [1, 2, 5, 7, 8])) (.reg r12 [1, 2, 5, 7, 8]))
def r8 : List AO := [⟨some 51, .mv (.t 7), none⟩,
  ⟨some 52, .bin .add (.t 51) (.v (.int .i64 1)), none⟩,
  ⟨some 7, .asg (.t 52), none⟩]
def l2 : AC := .seq (.seq (.reg r7 [1, 2, 5, 7, 50]) (.cond (.t 50) (.skip) (.exit 2))) (.seq (.block 3 (.seq (.dreg r9 [1, 2, 5, 7]) (.seq (.reg r10 [1, 2, 5, 7, 8]) (.block 4 (.loop [1, 2, 5, 7, 8] l3))))) (.reg r8 [1, 2, 5, 7]))
def r14 : List AO := [⟨some 112, .mv (.t 5), none⟩,
  ⟨some 4, .asg (.t 112), none⟩]
def body : AC := .seq (.reg r0 [1, 2]) (.seq (.reg r1 [1, 2, 5]) (.seq (.seq (.reg r2 [1, 2, 5, 6]) (.block 0 (.loop [1, 2, 5, 6] l1))) (.seq (.seq (.reg r6 [1, 2, 5, 7]) (.block 2 (.loop [1, 2, 5, 7] l2))) (.seq (.reg r14 [4]) (.ret)))))
def fn : AFun := ⟨[.val, .val], 113, [.tmp 4], [], body⟩
end hallmarkkit_typeParts
namespace hallmarkref09_Bare
def r0 : List AO := [⟨some 1, .box (.t 0), none⟩,
  ⟨some 2, .asg (.v (.bool false)), none⟩]
def r1 : List AO := [⟨some 4, .fadr 1 (.t 1), none⟩,
  ⟨some 5, .load 1 false (.t 4), none⟩,
  ⟨some 6, .mv (.t 5), none⟩,
  ⟨some 7, .fadr 2 (.t 1), some (6, false)⟩,
  ⟨some 8, .load 1 false (.t 7), some (6, false)⟩,
  ⟨some 9, .pick (.t 6) (.v (.bool true)) (.t 8), none⟩,
  ⟨some 10, .mv (.t 9), none⟩,
  ⟨some 11, .fadr 3 (.t 1), some (10, false)⟩,
  ⟨some 12, .load 1 false (.t 11), some (10, false)⟩,
  ⟨some 13, .pick (.t 10) (.v (.bool true)) (.t 12), none⟩,
  ⟨some 14, .mv (.t 13), none⟩,
  ⟨some 15, .fadr 5 (.t 1), some (14, false)⟩,
  ⟨some 16, .load 1 false (.t 15), some (14, false)⟩,
  ⟨some 17, .pick (.t 14) (.v (.bool true)) (.t 16), none⟩,
  ⟨some 3, .asg (.t 17), none⟩]
def r2 : List AO := [⟨some 18, .mv (.t 3), none⟩,
  ⟨some 19, .un .not (.t 18), none⟩,
  ⟨some 20, .mv (.t 19), none⟩,
  ⟨some 21, .fadr 4 (.t 1), some (20, true)⟩,
  ⟨some 22, .load 1 false (.t 21), some (20, true)⟩,
  ⟨some 23, .len false (.t 22), some (20, true)⟩,
  ⟨some 24, .bin .eql (.t 23) (.v (.int .i64 0)), some (20, true)⟩,
  ⟨some 25, .pick (.t 20) (.t 24) (.v (.bool false)), none⟩,
  ⟨some 26, .mv (.t 25), none⟩,
  ⟨some 27, .fadr 6 (.t 1), some (26, true)⟩,
  ⟨some 28, .load 1 false (.t 27), some (26, true)⟩,
  ⟨some 29, .len false (.t 28), some (26, true)⟩,
  ⟨some 30, .bin .eql (.t 29) (.v (.int .i64 0)), some (26, true)⟩,
  ⟨some 31, .pick (.t 26) (.t 30) (.v (.bool false)), none⟩,
  ⟨some 32, .mv (.t 31), none⟩,
  ⟨some 33, .fadr 7 (.t 1), some (32, true)⟩,
  ⟨some 34, .load 1 false (.t 33), some (32, true)⟩,
  ⟨some 35, .len false (.t 34), some (32, true)⟩,
  ⟨some 36, .bin .eql (.t 35) (.v (.int .i64 0)), some (32, true)⟩,
  ⟨some 37, .pick (.t 32) (.t 36) (.v (.bool false)), none⟩,
  ⟨some 38, .mv (.t 37), none⟩,
  ⟨some 39, .fadr 8 (.t 1), some (38, true)⟩,
  ⟨some 40, .take 1 false (.t 39), some (38, true)⟩,
  ⟨some 41, .len false (.t 40), some (38, true)⟩,
  ⟨some 42, .bin .eql (.t 41) (.v (.int .i64 0)), some (38, true)⟩,
  ⟨some 43, .pick (.t 38) (.t 42) (.v (.bool false)), none⟩,
  ⟨some 2, .asg (.t 43), none⟩]
def body : AC := .seq (.reg r0 [1]) (.seq (.reg r1 [1, 3]) (.seq (.reg r2 [2]) (.ret)))
def fn : AFun := ⟨[.val], 44, [.tmp 2], [], body⟩
end hallmarkref09_Bare
namespace hallmarkref09_Spans
def r0 : List AO := [⟨some 2, .asg (.v (.bool false)), none⟩]
def r1 : List AO := [⟨some 4, .mv (.t 0), none⟩,
  ⟨some 5, .len false (.t 4), none⟩,
  ⟨some 6, .bin .gtr (.t 5) (.v (.int .i64 1)), none⟩]
def r2 : List AO := [⟨some 2, .asg (.v (.bool false)), none⟩]
def r3 : List AO := [⟨some 3, .asg (.v (.int .i64 0)), none⟩]
def r4 : List AO := [⟨some 7, .mv (.t 3), none⟩,
  ⟨some 8, .mv (.t 0), none⟩,
  ⟨some 9, .len false (.t 8), none⟩,
  ⟨some 10, .bin .lss (.t 7) (.t 9), none⟩]
def r6 : List AO := [⟨some 13, .mv (.t 0), none⟩,
  ⟨some 14, .mv (.t 3), none⟩,
  ⟨some 15, .iadr 2 (.t 13) (.t 14), none⟩,
  ⟨some 16, .fadr 0 (.t 15), none⟩,
  ⟨some 17, .load 1 false (.t 16), none⟩,
  ⟨some 18, .call .deep (.v (.clo F.hallmarkref09_bound [] [])) [.t 17], none⟩,
  ⟨some 19, .un .not (.t 18), none⟩,
  ⟨some 20, .mv (.t 19), none⟩,
  ⟨some 21, .mv (.t 0), some (20, false)⟩,
  ⟨some 22, .mv (.t 3), some (20, false)⟩,
  ⟨some 23, .iadr 2 (.t 21) (.t 22), some (20, false)⟩,
  ⟨some 24, .fadr 1 (.t 23), some (20, false)⟩,
  ⟨some 25, .load 1 false (.t 24), some (20, false)⟩,
  ⟨some 26, .call .deep (.v (.clo F.hallmarkref09_bound [] [])) [.t 25], some (20, false)⟩,
  ⟨some 27, .un .not (.t 26), some (20, false)⟩,
  ⟨some 28, .pick (.t 20) (.v (.bool true)) (.t 27), none⟩]
def r7 : List AO := [⟨some 2, .asg (.v (.bool false)), none⟩]
def r8 : List Ph := [.bag false [] [] [(0, ⟨some 29, .mv (.t 0), none⟩),
    (1, ⟨some 30, .mv (.t 3), none⟩),
    (2, ⟨some 31, .iadr 2 (.t 29) (.t 30), none⟩),
    (3, ⟨some 32, .fadr 0 (.t 31), none⟩),
    (4, ⟨some 33, .load 1 false (.t 32), none⟩),
    (5, ⟨some 34, .bin .neq (.t 33) (.v (.str [])), none⟩),
    (6, ⟨some 35, .mv (.t 34), none⟩),
    (7, ⟨some 36, .mv (.t 0), some (35, true)⟩),
    (8, ⟨some 37, .mv (.t 3), some (35, true)⟩),
    (9, ⟨some 38, .iadr 2 (.t 36) (.t 37), some (35, true)⟩),
    (10, ⟨some 39, .fadr 1 (.t 38), some (35, true)⟩),
    (11, ⟨some 40, .load 1 false (.t 39), some (35, true)⟩),
    (12, ⟨some 41, .bin .neq (.t 40) (.v (.str [])), some (35, true)⟩),
    (13, ⟨some 42, .pick (.t 35) (.t 41) (.v (.bool false)), none⟩),
    (14, ⟨some 43, .mv (.t 42), none⟩),
    (15, ⟨some 44, .mv (.t 0), some (43, true)⟩),
    (16, ⟨some 45, .mv (.t 3), some (43, true)⟩),
    (17, ⟨some 46, .iadr 2 (.t 44) (.t 45), some (43, true)⟩),
    (18, ⟨some 47, .fadr 0 (.t 46), some (43, true)⟩),
    (19, ⟨some 48, .load 1 false (.t 47), some (43, true)⟩),
    (20, ⟨some 49, .mv (.t 0), some (43, true)⟩),
    (21, ⟨some 50, .mv (.t 3), some (43, true)⟩),
    (22, ⟨some 51, .iadr 2 (.t 49) (.t 50), some (43, true)⟩),
    (23, ⟨some 52, .fadr 1 (.t 51), some (43, true)⟩),
    (24, ⟨some 53, .load 1 false (.t 52), some (43, true)⟩),
    (25, ⟨some 54, .call .deep (.v (.clo F.hallmarkref03_Numbers [] [])) [.t 48, .t 53], some (43, true)⟩),
    (26, ⟨some 55, .bin .gtr (.t 54) (.v (.int .i64 0)), some (43, true)⟩),
    (27, ⟨some 56, .pick (.t 43) (.t 55) (.v (.bool false)), none⟩)]]
def r9 : List AO := [⟨some 2, .asg (.v (.bool false)), none⟩]
def r5 : List AO := [⟨some 11, .mv (.t 3), none⟩,
  ⟨some 12, .bin .add (.t 11) (.v (.int .i64 1)), none⟩,
  ⟨some 3, .asg (.t 12), none⟩]
def l1 : AC := .seq (.seq (.reg r4 [0, 3, 10]) (.cond (.t 10) (.skip) (.exit 0))) (.seq (.block 1 (.seq (.seq (.reg r6 [0, 3, 28]) (.cond (.t 28) (.seq (.reg r7 [2]) (.ret)) (.skip))) (.seq (.dreg r8 [0, 3, 56]) (.cond (.t 56) (.seq (.reg r9 [2]) (.ret)) (.skip))))) (.reg r5 [0, 3]))
def r10 : List AO := [⟨some 2, .asg (.v (.bool true)), none⟩]
def body : AC := .seq (.reg r0 [0]) (.seq (.seq (.reg r1 [0, 6]) (.cond (.t 6) (.seq (.reg r2 [2]) (.ret)) (.skip))) (.seq (.seq (.reg r3 [0, 3]) (.block 0 (.loop [0, 3] l1))) (.seq (.reg r10 [2]) (.ret))))
def fn : AFun := ⟨[.val], 57, [.tmp 2], [], body⟩
end hallmarkref09_Spans
namespace hallmarkref09_arrays
def r0 : List AO := [⟨some 2, .asg (.v (.bool false)), none⟩]
def r1 : List AO := [⟨some 4, .mv (.t 0), none⟩,
  ⟨some 5, .len false (.t 4), none⟩,
  ⟨some 6, .bin .gtr (.t 5) (.v (.int .i64 1)), none⟩]
def r2 : List AO := [⟨some 2, .asg (.v (.bool false)), none⟩]
def r3 : List AO := [⟨some 3, .asg (.v (.int .i64 0)), none⟩]
def r4 : List AO := [⟨some 7, .mv (.t 3), none⟩,
  ⟨some 8, .mv (.t 0), none⟩,
  ⟨some 9, .len false (.t 8), none⟩,
  ⟨some 10, .bin .lss (.t 7) (.t 9), none⟩]
def r6 : List Ph := [.bag false [] [] [(0, ⟨some 13, .mv (.t 0), none⟩),
    (1, ⟨some 14, .mv (.t 3), none⟩),
    (2, ⟨some 15, .iadr 11 (.t 13) (.t 14), none⟩),
    (3, ⟨some 16, .fadr 9 (.t 15), none⟩),
    (4, ⟨some 17, .load 1 false (.t 16), none⟩),
    (5, ⟨some 18, .bin .lss (.t 17) (.v (.int .i64 0)), none⟩),
    (6, ⟨some 19, .mv (.t 18), none⟩),
    (7, ⟨some 20, .mv (.t 0), some (19, false)⟩),
    (8, ⟨some 21, .mv (.t 3), some (19, false)⟩),
    (9, ⟨some 22, .iadr 11 (.t 20) (.t 21), some (19, false)⟩),
    (10, ⟨some 23, .fadr 10 (.t 22), some (19, false)⟩),
    (11, ⟨some 24, .load 1 false (.t 23), some (19, false)⟩),
    (12, ⟨some 25, .bin .lss (.t 24) (.v (.int .i64 (-1))), some (19, false)⟩),
    (13, ⟨some 26, .pick (.t 19) (.v (.bool true)) (.t 25), none⟩),
    (14, ⟨some 27, .mv (.t 26), none⟩),
    (15, ⟨some 28, .mv (.t 0), some (27, false)⟩),
    (16, ⟨some 29, .mv (.t 3), some (27, false)⟩),
    (17, ⟨some 30, .iadr 11 (.t 28) (.t 29), some (27, false)⟩),
    (18, ⟨some 31, .fadr 10 (.t 30), some (27, false)⟩),
    (19, ⟨some 32, .load 1 false (.t 31), some (27, false)⟩),
    (20, ⟨some 33, .bin .geq (.t 32) (.v (.int .i64 0)), some (27, false)⟩),
    (21, ⟨some 34, .mv (.t 33), some (27, false)⟩),
    (22, ⟨some 35, .mv (.t 0), some (34, true)⟩),
    (23, ⟨some 36, .mv (.t 3), some (34, true)⟩),
    (24, ⟨some 37, .iadr 11 (.t 35) (.t 36), some (34, true)⟩),
    (25, ⟨some 38, .fadr 10 (.t 37), some (34, true)⟩),
    (26, ⟨some 39, .load 1 false (.t 38), some (34, true)⟩),
    (27, ⟨some 40, .mv (.t 0), some (34, true)⟩),
    (28, ⟨some 41, .mv (.t 3), some (34, true)⟩),
    (29, ⟨some 42, .iadr 11 (.t 40) (.t 41), some (34, true)⟩),
    (30, ⟨some 43, .fadr 9 (.t 42), some (34, true)⟩),
    (31, ⟨some 44, .load 1 false (.t 43), some (34, true)⟩),
    (32, ⟨some 45, .bin .lss (.t 39) (.t 44), some (34, true)⟩),
    (33, ⟨some 46, .pick (.t 34) (.t 45) (.v (.bool false)), some (27, false)⟩),
    (34, ⟨some 47, .pick (.t 27) (.v (.bool true)) (.t 46), none⟩)]]
def r7 : List AO := [⟨some 2, .asg (.v (.bool false)), none⟩]
def r8 : List Ph := [.bag false [] [52, 60] [(0, ⟨some 48, .mv (.t 0), none⟩),
    (1, ⟨some 49, .mv (.t 3), none⟩),
    (2, ⟨some 50, .iadr 11 (.t 48) (.t 49), none⟩),
    (3, ⟨some 51, .fadr 0 (.t 50), none⟩),
    (4, ⟨some 52, .load 9 true (.t 51), none⟩),
    (5, ⟨some 53, .call .deep (.v (.clo F.hallmarkref09_Formed [] [])) [.t 52], none⟩),
    (6, ⟨some 54, .un .not (.t 53), none⟩),
    (7, ⟨some 55, .mv (.t 54), none⟩),
    (8, ⟨some 56, .mv (.t 0), some (55, false)⟩),
    (9, ⟨some 57, .mv (.t 3), some (55, false)⟩),
    (10, ⟨some 58, .iadr 11 (.t 56) (.t 57), some (55, false)⟩),
    (11, ⟨some 59, .fadr 0 (.t 58), some (55, false)⟩),
    (12, ⟨some 60, .load 9 true (.t 59), some (55, false)⟩),
    (13, ⟨some 61, .call .deep (.v (.clo F.hallmarkref09_Never [] [])) [.t 60], some (55, false)⟩),
    (14, ⟨some 62, .mv (.t 0), some (55, false)⟩),
    (15, ⟨some 63, .mv (.t 3), some (55, false)⟩),
    (16, ⟨some 64, .iadr 11 (.t 62) (.t 63), some (55, false)⟩),
    (17, ⟨some 65, .fadr 10 (.t 64), some (55, false)⟩),
    (18, ⟨some 66, .load 1 false (.t 65), some (55, false)⟩),
    (19, ⟨some 67, .bin .eql (.t 66) (.v (.int .i64 0)), some (55, false)⟩),
    (20, ⟨some 68, .binB true (.t 61) (.t 67), some (55, false)⟩),
    (21, ⟨some 69, .pick (.t 55) (.v (.bool true)) (.t 68), none⟩)]]
def r9 : List AO := [⟨some 2, .asg (.v (.bool false)), none⟩]
def r5 : List AO := [⟨some 11, .mv (.t 3), none⟩,
  ⟨some 12, .bin .add (.t 11) (.v (.int .i64 1)), none⟩,
  ⟨some 3, .asg (.t 12), none⟩]
def l1 : AC := .seq (.seq (.reg r4 [0, 3, 10]) (.cond (.t 10) (.skip) (.exit 0))) (.seq (.block 1 (.seq (.seq (.dreg r6 [0, 3, 47]) (.cond (.t 47) (.seq (.reg r7 [2]) (.ret)) (.skip))) (.seq (.dreg r8 [0, 3, 69]) (.cond (.t 69) (.seq (.reg r9 [2]) (.ret)) (.skip))))) (.reg r5 [0, 3]))
def r10 : List AO := [⟨some 2, .asg (.v (.bool true)), none⟩]
def body : AC := .seq (.reg r0 [0]) (.seq (.seq (.reg r1 [0, 6]) (.cond (.t 6) (.seq (.reg r2 [2]) (.ret)) (.skip))) (.seq (.seq (.reg r3 [0, 3]) (.block 0 (.loop [0, 3] l1))) (.seq (.reg r10 [2]) (.ret))))
def fn : AFun := ⟨[.val], 70, [.tmp 2], [], body⟩
end hallmarkref09_arrays
namespace hallmarkref09_objects
def r0 : List AO := [⟨some 2, .asg (.v (.bool false)), none⟩]
def r1 : List AO := [⟨some 3, .asg (.v (.int .i64 0)), none⟩]
def r2 : List AO := [⟨some 4, .mv (.t 3), none⟩,
  ⟨some 5, .mv (.t 0), none⟩,
  ⟨some 6, .len false (.t 5), none⟩,
  ⟨some 7, .bin .lss (.t 4) (.t 6), none⟩]
def r4 : List AO := [⟨some 10, .mv (.t 0), none⟩,
  ⟨some 11, .mv (.t 3), none⟩,
  ⟨some 12, .iadr 12 (.t 10) (.t 11), none⟩,
  ⟨some 13, .load 12 true (.t 12), none⟩,
  ⟨some 14, .call .deep (.v (.clo F.hallmarkref09_object [] [])) [.t 13], none⟩,
  ⟨some 15, .un .not (.t 14), none⟩]
def r5 : List AO := [⟨some 2, .asg (.v (.bool false)), none⟩]
def r3 : List AO := [⟨some 8, .mv (.t 3), none⟩,
  ⟨some 9, .bin .add (.t 8) (.v (.int .i64 1)), none⟩,
  ⟨some 3, .asg (.t 9), none⟩]
def l1 : AC := .seq (.seq (.reg r2 [0, 3, 7]) (.cond (.t 7) (.skip) (.exit 0))) (.seq (.block 1 (.seq (.reg r4 [0, 3, 15]) (.cond (.t 15) (.seq (.reg r5 [2]) (.ret)) (.skip)))) (.reg r3 [0, 3]))
def r6 : List AO := [⟨some 2, .asg (.v (.bool true)), none⟩]
def body : AC := .seq (.reg r0 [0]) (.seq (.seq (.reg r1 [0, 3]) (.block 0 (.loop [0, 3] l1))) (.seq (.reg r6 [2]) (.ret)))
def fn : AFun := ⟨[.val], 16, [.tmp 2], [], body⟩
end hallmarkref09_objects
namespace hallmarkref09_higher
def r0 : List AO := [⟨some 3, .box (.t 1), none⟩,
  ⟨some 4, .asg (.v (.int .i64 0)), none⟩]
def r1 : List AO := [⟨some 6, .take 9 true (.t 3), none⟩,
  ⟨some 7, .call .deep (.v (.clo F.hallmarkref09_Height [] [])) [.t 6], none⟩,
  ⟨some 5, .asg (.t 7), none⟩]
def r2 : List AO := [⟨some 8, .mv (.t 5), none⟩,
  ⟨some 9, .bin .add (.t 8) (.v (.int .i64 1)), none⟩,
  ⟨some 10, .mv (.t 0), none⟩,
  ⟨some 11, .bin .gtr (.t 9) (.t 10), none⟩]
def r3 : List AO := [⟨some 12, .mv (.t 5), none⟩,
  ⟨some 13, .bin .add (.t 12) (.v (.int .i64 1)), none⟩,
  ⟨some 4, .asg (.t 13), none⟩]
def r4 : List AO := [⟨some 14, .mv (.t 0), none⟩,
  ⟨some 4, .asg (.t 14), none⟩]
def body : AC := .seq (.reg r0 [0, 3]) (.seq (.reg r1 [0, 5]) (.seq (.seq (.reg r2 [0, 5, 11]) (.cond (.t 11) (.seq (.reg r3 [4]) (.ret)) (.skip))) (.seq (.reg r4 [4]) (.ret))))
def fn : AFun := ⟨[.val, .val], 15, [.tmp 4], [], body⟩
end hallmarkref09_higher
namespace hallmarkref09_bound
def r0 : List AO := [⟨some 2, .asg (.v (.bool false)), none⟩]
def r1 : List AO := [⟨some 3, .mv (.t 0), none⟩,
  ⟨some 4, .bin .eql (.t 3) (.v (.str [])), none⟩,
  ⟨some 5, .mv (.t 4), none⟩,
  ⟨some 6, .mv (.t 0), some (5, false)⟩,
  ⟨some 7, .call .deep (.v (.clo F.hallmarkref03_Number [] [])) [.t 6], some (5, false)⟩,
  ⟨some 8, .pick (.t 5) (.v (.bool true)) (.t 7), none⟩,
  ⟨some 2, .asg (.t 8), none⟩]
def body : AC := .seq (.reg r0 [0]) (.seq (.reg r1 [2]) (.ret))
def fn : AFun := ⟨[.val], 9, [.tmp 2], [], body⟩
end hallmarkref09_bound
namespace hallmarkref09_Never
def r0 : List AO := [⟨some 1, .box (.t 0), none⟩,
  ⟨some 2, .asg (.v (.bool false)), none⟩]
def r1 : List AO := [⟨some 3, .fadr 0 (.t 1), none⟩,
  ⟨some 4, .load 1 false (.t 3), none⟩,
  ⟨some 5, .un .not (.t 4), none⟩,
  ⟨some 6, .mv (.t 5), none⟩,
  ⟨some 7, .take 9 true (.t 1), some (6, true)⟩,
  ⟨some 8, .call .deep (.v (.clo F.hallmarkref09_Bare [] [])) [.t 7], some (6, true)⟩,
  ⟨some 9, .pick (.t 6) (.t 8) (.v (.bool false)), none⟩,
  ⟨some 2, .asg (.t 9), none⟩]
def body : AC := .seq (.reg r0 [1]) (.seq (.reg r1 [2]) (.ret))
def fn : AFun := ⟨[.val], 10, [.tmp 2], [], body⟩
end hallmarkref09_Never
namespace hallmarkref09_object
def r0 : List AO := [⟨some 1, .box (.t 0), none⟩,
  ⟨some 2, .asg (.v (.bool false)), none⟩]
def r1 : List AO := [⟨some 4, .fadr 0 (.t 1), none⟩,
  ⟨some 5, .load 1 false (.t 4), none⟩,
  ⟨some 6, .len false (.t 5), none⟩,
  ⟨some 7, .fadr 1 (.t 1), none⟩,
  ⟨some 8, .load 1 false (.t 7), none⟩,
  ⟨some 9, .len false (.t 8), none⟩,
  ⟨some 10, .bin .neq (.t 6) (.t 9), none⟩,
  ⟨some 11, .mv (.t 10), none⟩,
  ⟨some 12, .fadr 0 (.t 1), some (11, false)⟩,
  ⟨some 13, .load 1 false (.t 12), some (11, false)⟩,
  ⟨some 14, .len false (.t 13), some (11, false)⟩,
  ⟨some 15, .fadr 2 (.t 1), some (11, false)⟩,
  ⟨some 16, .load 1 false (.t 15), some (11, false)⟩,
  ⟨some 17, .len false (.t 16), some (11, false)⟩,
  ⟨some 18, .bin .neq (.t 14) (.t 17), some (11, false)⟩,
  ⟨some 19, .pick (.t 11) (.v (.bool true)) (.t 18), none⟩,
  ⟨some 20, .mv (.t 19), none⟩,
  ⟨some 21, .fadr 0 (.t 1), some (20, false)⟩,
  ⟨some 22, .load 1 false (.t 21), some (20, false)⟩,
  ⟨some 23, .call .deep (.v (.clo F.hallmarkref03_Rise [] [])) [.t 22], some (20, false)⟩,
  ⟨some 24, .un .not (.t 23), some (20, false)⟩,
  ⟨some 25, .pick (.t 20) (.v (.bool true)) (.t 24), none⟩,
  ⟨some 26, .mv (.t 25), none⟩,
  ⟨some 27, .fadr 3 (.t 1), some (26, false)⟩,
  ⟨some 28, .load 9 true (.t 27), some (26, false)⟩,
  ⟨some 29, .call .deep (.v (.clo F.hallmarkref09_Formed [] [])) [.t 28], some (26, false)⟩,
  ⟨some 30, .un .not (.t 29), some (26, false)⟩,
  ⟨some 31, .pick (.t 26) (.v (.bool true)) (.t 30), none⟩]
def r2 : List AO := [⟨some 2, .asg (.v (.bool false)), none⟩]
def r3 : List AO := [⟨some 3, .asg (.v (.int .i64 0)), none⟩]
def r4 : List AO := [⟨some 32, .mv (.t 3), none⟩,
  ⟨some 33, .fadr 1 (.t 1), none⟩,
  ⟨some 34, .load 1 false (.t 33), none⟩,
  ⟨some 35, .len false (.t 34), none⟩,
  ⟨some 36, .bin .lss (.t 32) (.t 35), none⟩]
def r6 : List AO := [⟨some 39, .fadr 1 (.t 1), none⟩,
  ⟨some 40, .load 1 false (.t 39), none⟩,
  ⟨some 41, .mv (.t 3), none⟩,
  ⟨some 42, .iadr 9 (.t 40) (.t 41), none⟩,
  ⟨some 43, .load 9 true (.t 42), none⟩,
  ⟨some 44, .call .deep (.v (.clo F.hallmarkref09_Formed [] [])) [.t 43], none⟩,
  ⟨some 45, .un .not (.t 44), none⟩,
  ⟨some 46, .mv (.t 45), none⟩,
  ⟨some 47, .fadr 2 (.t 1), some (46, false)⟩,
  ⟨some 48, .load 1 false (.t 47), some (46, false)⟩,
  ⟨some 49, .mv (.t 3), some (46, false)⟩,
  ⟨some 50, .iadr 1 (.t 48) (.t 49), some (46, false)⟩,
  ⟨some 51, .load 1 false (.t 50), some (46, false)⟩,
  ⟨some 52, .mv (.t 51), some (46, false)⟩,
  ⟨some 53, .fadr 1 (.t 1), some (52, true)⟩,
  ⟨some 54, .load 1 false (.t 53), some (52, true)⟩,
  ⟨some 55, .mv (.t 3), some (52, true)⟩,
  ⟨some 56, .iadr 9 (.t 54) (.t 55), some (52, true)⟩,
  ⟨some 57, .load 9 true (.t 56), some (52, true)⟩,
  ⟨some 58, .call .deep (.v (.clo F.hallmarkref09_Never [] [])) [.t 57], some (52, true)⟩,
  ⟨some 59, .pick (.t 52) (.t 58) (.v (.bool false)), some (46, false)⟩,
  ⟨some 60, .pick (.t 46) (.v (.bool true)) (.t 59), none⟩]
def r7 : List AO := [⟨some 2, .asg (.v (.bool false)), none⟩]
def r5 : List AO := [⟨some 37, .mv (.t 3), none⟩,
  ⟨some 38, .bin .add (.t 37) (.v (.int .i64 1)), none⟩,
  ⟨some 3, .asg (.t 38), none⟩]
def l1 : AC := .seq (.seq (.reg r4 [1, 3, 36]) (.cond (.t 36) (.skip) (.exit 0))) (.seq (.block 1 (.seq (.reg r6 [1, 3, 60]) (.cond (.t 60) (.seq (.reg r7 [2]) (.ret)) (.skip)))) (.reg r5 [1, 3]))
def r8 : List AO := [⟨some 2, .asg (.v (.bool true)), none⟩]
def body : AC := .seq (.reg r0 [1]) (.seq (.seq (.reg r1 [1, 31]) (.cond (.t 31) (.seq (.reg r2 [2]) (.ret)) (.skip))) (.seq (.seq (.reg r3 [1, 3]) (.block 0 (.loop [1, 3] l1))) (.seq (.reg r8 [2]) (.ret))))
def fn : AFun := ⟨[.val], 61, [.tmp 2], [], body⟩
end hallmarkref09_object
end Hm
