/- The cleaned code of the functions that the law reaches, printed by program. Conditions: none (definitions). -/
import Derived.Test.YtkjppfdcnfiaeaaHA
set_option maxRecDepth 100000
namespace Hm
namespace F
abbrev hallmarkref03_Number : Nat := 17
abbrev hallmarkref03_UTF : Nat := 18
abbrev hallmarkref03_Rise : Nat := 19
abbrev cmp_Compare_int : Nat := 40
abbrev hallmarkref03_width : Nat := 42
abbrev tens_Cmp : Nat := 46
abbrev slices_Compare_Lstring_string : Nat := 49
abbrev cmp_Or_int : Nat := 50
abbrev cmp_isNaN_int : Nat := 51
abbrev hallmarkref03_trail : Nat := 53
abbrev tens_Formed : Nat := 54
abbrev tens_split : Nat := 55
abbrev tens_size : Nat := 56
abbrev cmp_Compare_string : Nat := 57
abbrev cmp_isNaN_string : Nat := 60
abbrev hallmarkref03_Numbers : Nat := 107
abbrev hallmarkref03_Texts : Nat := 108
abbrev hallmarkkit_FitType : Nat := 136
abbrev hallmarkref09_Formed : Nat := 137
abbrev hallmarklaw09_ShapeRow : Nat := 139
abbrev shape_Cmp : Nat := 140
abbrev hallmarkkit_SameType : Nat := 141
abbrev hallmarkkit_typeParts : Nat := 142
abbrev hallmarkref09_Bare : Nat := 143
abbrev hallmarkref09_Spans : Nat := 144
abbrev hallmarkref09_arrays : Nat := 145
abbrev hallmarkref09_objects : Nat := 146
abbrev shape_truth : Nat := 148
abbrev slices_CompareFunc_LSpan_LSpan_Span_Span : Nat := 149
abbrev shape_span : Nat := 150
abbrev slices_CompareFunc_LArr_LArr_Arr_Arr : Nat := 151
abbrev shape_arr : Nat := 152
abbrev slices_CompareFunc_LObj_LObj_Obj_Obj : Nat := 153
abbrev shape_obj : Nat := 154
abbrev hallmarkkit_SameSpans : Nat := 155
abbrev hallmarkkit_SameStrings : Nat := 156
abbrev hallmarkkit_SameArrs : Nat := 157
abbrev hallmarkkit_SameObjs : Nat := 158
abbrev hallmarkref09_bound : Nat := 159
abbrev hallmarkref09_Never : Nat := 160
abbrev hallmarkref09_object : Nat := 161
abbrev shape_bound : Nat := 162
abbrev shape_most : Nat := 163
abbrev slices_CompareFunc_Lbool_Lbool_bool_bool : Nat := 164
abbrev slices_CompareFunc_LType_LType_Type_Type : Nat := 165
abbrev hallmarkkit_SameSpan : Nat := 166
abbrev hallmarkkit_SameArr : Nat := 167
abbrev hallmarkkit_SameObj : Nat := 168
abbrev shape_worth : Nat := 169
abbrev hallmarkkit_SameTypes : Nat := 170
abbrev hallmarkkit_SameBools : Nat := 171
end F
namespace hallmarkref03_Number
def r0 : List AO := [⟨some 2, .asg (.v (.bool false)), none⟩]
def r1 : List AO := [⟨some 5, .mv (.t 0), none⟩,
  ⟨some 3, .asg (.t 5), none⟩]
def r2 : List AO := [⟨some 6, .mv (.t 0), none⟩,
  ⟨some 7, .len true (.t 6), none⟩,
  ⟨some 8, .bin .gtr (.t 7) (.v (.int .i64 0)), none⟩,
  ⟨some 9, .mv (.t 8), none⟩,
  ⟨some 10, .mv (.t 0), some (9, true)⟩,
  ⟨some 11, .idxS (.t 10) (.v (.int .i64 0)), some (9, true)⟩,
  ⟨some 12, .bin .eql (.t 11) (.v (.int .u8 45)), some (9, true)⟩,
  ⟨some 13, .pick (.t 9) (.t 12) (.v (.bool false)), none⟩]
def r3 : List AO := [⟨some 14, .mv (.t 0), none⟩,
  ⟨some 15, .slc true 1 (.t 14) (some (.v (.int .i64 1))) none, none⟩,
  ⟨some 3, .asg (.t 15), none⟩]
def r4 : List AO := [⟨some 4, .asg (.v (.int .i64 0)), none⟩]
def r5 : List AO := [⟨some 16, .mv (.t 4), none⟩,
  ⟨some 17, .mv (.t 3), none⟩,
  ⟨some 18, .len true (.t 17), none⟩,
  ⟨some 19, .bin .lss (.t 16) (.t 18), none⟩]
def r7 : List AO := [⟨some 22, .mv (.t 3), none⟩,
  ⟨some 23, .mv (.t 4), none⟩,
  ⟨some 24, .idxS (.t 22) (.t 23), none⟩,
  ⟨some 25, .bin .lss (.t 24) (.v (.int .u8 48)), none⟩,
  ⟨some 26, .mv (.t 25), none⟩,
  ⟨some 27, .mv (.t 3), some (26, false)⟩,
  ⟨some 28, .mv (.t 4), some (26, false)⟩,
  ⟨some 29, .idxS (.t 27) (.t 28), some (26, false)⟩,
  ⟨some 30, .bin .gtr (.t 29) (.v (.int .u8 57)), some (26, false)⟩,
  ⟨some 31, .pick (.t 26) (.v (.bool true)) (.t 30), none⟩]
def r8 : List AO := [⟨some 2, .asg (.v (.bool false)), none⟩]
def r6 : List AO := [⟨some 20, .mv (.t 4), none⟩,
  ⟨some 21, .bin .add (.t 20) (.v (.int .i64 1)), none⟩,
  ⟨some 4, .asg (.t 21), none⟩]
def l1 : AC := .seq (.seq (.reg r5 [0, 3, 4, 19]) (.cond (.t 19) (.skip) (.exit 0))) (.seq (.block 1 (.seq (.reg r7 [0, 3, 4, 31]) (.cond (.t 31) (.seq (.reg r8 [2]) (.ret)) (.skip)))) (.reg r6 [0, 3, 4]))
def r9 : List AO := [⟨some 32, .mv (.t 3), none⟩,
  ⟨some 33, .len true (.t 32), none⟩,
  ⟨some 34, .bin .eql (.t 33) (.v (.int .i64 0)), none⟩,
  ⟨some 35, .mv (.t 34), none⟩,
  ⟨some 36, .mv (.t 3), some (35, false)⟩,
  ⟨some 37, .idxS (.t 36) (.v (.int .i64 0)), some (35, false)⟩,
  ⟨some 38, .bin .eql (.t 37) (.v (.int .u8 48)), some (35, false)⟩,
  ⟨some 39, .mv (.t 38), some (35, false)⟩,
  ⟨some 40, .mv (.t 0), some (39, true)⟩,
  ⟨some 41, .bin .neq (.t 40) (.v (.str [48])), some (39, true)⟩,
  ⟨some 42, .pick (.t 39) (.t 41) (.v (.bool false)), some (35, false)⟩,
  ⟨some 43, .pick (.t 35) (.v (.bool true)) (.t 42), none⟩]
def r10 : List AO := [⟨some 2, .asg (.v (.bool false)), none⟩]
def r11 : List AO := [⟨some 2, .asg (.v (.bool true)), none⟩]
def body : AC := .seq (.reg r0 [0]) (.seq (.reg r1 [0, 3]) (.seq (.seq (.reg r2 [0, 3, 13]) (.cond (.t 13) (.reg r3 [0, 3]) (.skip))) (.seq (.seq (.reg r4 [0, 3, 4]) (.block 0 (.loop [0, 3, 4] l1))) (.seq (.seq (.reg r9 [43]) (.cond (.t 43) (.seq (.reg r10 [2]) (.ret)) (.skip))) (.seq (.reg r11 [2]) (.ret))))))
def fn : AFun := ⟨[.val], 44, [.tmp 2], [], body⟩
end hallmarkref03_Number
namespace hallmarkref03_UTF
def r0 : List AO := [⟨some 2, .asg (.v (.bool false)), none⟩]
def r1 : List AO := [⟨some 3, .asg (.v (.int .i64 0)), none⟩]
def r2 : List AO := [⟨some 5, .mv (.t 3), none⟩,
  ⟨some 6, .mv (.t 0), none⟩,
  ⟨some 7, .len true (.t 6), none⟩,
  ⟨some 8, .bin .lss (.t 5) (.t 7), none⟩]
def r3 : List AO := [⟨some 9, .mv (.t 0), none⟩,
  ⟨some 10, .mv (.t 3), none⟩,
  ⟨some 11, .call .deep (.v (.clo F.hallmarkref03_width [] [])) [.t 9, .t 10], none⟩,
  ⟨some 4, .asg (.t 11), none⟩]
def r4 : List AO := [⟨some 12, .mv (.t 4), none⟩,
  ⟨some 13, .bin .eql (.t 12) (.v (.int .i64 0)), none⟩]
def r5 : List AO := [⟨some 2, .asg (.v (.bool false)), none⟩]
def r6 : List AO := [⟨some 14, .mv (.t 3), none⟩,
  ⟨some 15, .mv (.t 4), none⟩,
  ⟨some 16, .bin .add (.t 14) (.t 15), none⟩,
  ⟨some 3, .asg (.t 16), none⟩]
def l1 : AC := .seq (.seq (.reg r2 [0, 3, 8]) (.cond (.t 8) (.skip) (.exit 0))) (.block 1 (.seq (.reg r3 [0, 3, 4]) (.seq (.seq (.reg r4 [0, 3, 4, 13]) (.cond (.t 13) (.seq (.reg r5 [2]) (.ret)) (.skip))) (.reg r6 [0, 3]))))
def r7 : List AO := [⟨some 2, .asg (.v (.bool true)), none⟩]
def body : AC := .seq (.reg r0 [0]) (.seq (.seq (.reg r1 [0, 3]) (.block 0 (.loop [0, 3] l1))) (.seq (.reg r7 [2]) (.ret)))
def fn : AFun := ⟨[.val], 17, [.tmp 2], [], body⟩
end hallmarkref03_UTF
namespace hallmarkref03_Rise
def r0 : List AO := [⟨some 2, .asg (.v (.bool false)), none⟩]
def r1 : List AO := [⟨some 3, .asg (.v (.int .i64 0)), none⟩]
def r2 : List AO := [⟨some 4, .mv (.t 3), none⟩,
  ⟨some 5, .mv (.t 0), none⟩,
  ⟨some 6, .len false (.t 5), none⟩,
  ⟨some 7, .bin .lss (.t 4) (.t 6), none⟩]
def r4 : List AO := [⟨some 10, .mv (.t 0), none⟩,
  ⟨some 11, .mv (.t 3), none⟩,
  ⟨some 12, .iadr 1 (.t 10) (.t 11), none⟩,
  ⟨some 13, .load 1 false (.t 12), none⟩,
  ⟨some 14, .call .deep (.v (.clo F.hallmarkref03_UTF [] [])) [.t 13], none⟩,
  ⟨some 15, .un .not (.t 14), none⟩]
def r5 : List AO := [⟨some 2, .asg (.v (.bool false)), none⟩]
def r6 : List Ph := [.bag false [] [] [(0, ⟨some 16, .mv (.t 3), none⟩),
    (1, ⟨some 17, .bin .gtr (.t 16) (.v (.int .i64 0)), none⟩),
    (2, ⟨some 18, .mv (.t 17), none⟩),
    (3, ⟨some 19, .mv (.t 0), some (18, true)⟩),
    (4, ⟨some 20, .mv (.t 3), some (18, true)⟩),
    (5, ⟨some 21, .bin .sub (.t 20) (.v (.int .i64 1)), some (18, true)⟩),
    (6, ⟨some 22, .iadr 1 (.t 19) (.t 21), some (18, true)⟩),
    (7, ⟨some 23, .load 1 false (.t 22), some (18, true)⟩),
    (8, ⟨some 24, .mv (.t 0), some (18, true)⟩),
    (9, ⟨some 25, .mv (.t 3), some (18, true)⟩),
    (10, ⟨some 26, .iadr 1 (.t 24) (.t 25), some (18, true)⟩),
    (11, ⟨some 27, .load 1 false (.t 26), some (18, true)⟩),
    (12, ⟨some 28, .bin .geq (.t 23) (.t 27), some (18, true)⟩),
    (13, ⟨some 29, .pick (.t 18) (.t 28) (.v (.bool false)), none⟩)]]
def r7 : List AO := [⟨some 2, .asg (.v (.bool false)), none⟩]
def r3 : List AO := [⟨some 8, .mv (.t 3), none⟩,
  ⟨some 9, .bin .add (.t 8) (.v (.int .i64 1)), none⟩,
  ⟨some 3, .asg (.t 9), none⟩]
def l1 : AC := .seq (.seq (.reg r2 [0, 3, 7]) (.cond (.t 7) (.skip) (.exit 0))) (.seq (.block 1 (.seq (.seq (.reg r4 [0, 3, 15]) (.cond (.t 15) (.seq (.reg r5 [2]) (.ret)) (.skip))) (.seq (.dreg r6 [0, 3, 29]) (.cond (.t 29) (.seq (.reg r7 [2]) (.ret)) (.skip))))) (.reg r3 [0, 3]))
def r8 : List AO := [⟨some 2, .asg (.v (.bool true)), none⟩]
def body : AC := .seq (.reg r0 [0]) (.seq (.seq (.reg r1 [0, 3]) (.block 0 (.loop [0, 3] l1))) (.seq (.reg r8 [2]) (.ret)))
def fn : AFun := ⟨[.val], 30, [.tmp 2], [], body⟩
end hallmarkref03_Rise
namespace cmp_Compare_int
def r0 : List AO := [⟨some 4, .asg (.v (.int .i64 0)), none⟩]
def r1 : List AO := [⟨some 7, .mv (.t 0), none⟩,
  ⟨some 8, .call .deep (.v (.clo F.cmp_isNaN_int [] [])) [.t 7], none⟩,
  ⟨some 5, .asg (.t 8), none⟩]
def r2 : List AO := [⟨some 9, .mv (.t 1), none⟩,
  ⟨some 10, .call .deep (.v (.clo F.cmp_isNaN_int [] [])) [.t 9], none⟩,
  ⟨some 6, .asg (.t 10), none⟩]
def r3 : List AO := [⟨some 11, .mv (.t 5), none⟩]
def r4 : List AO := [⟨some 12, .mv (.t 6), none⟩]
def r5 : List AO := [⟨some 4, .asg (.v (.int .i64 0)), none⟩]
def r6 : List AO := [⟨some 4, .asg (.v (.int .i64 (-1))), none⟩]
def r7 : List AO := [⟨some 13, .mv (.t 6), none⟩]
def r8 : List AO := [⟨some 4, .asg (.v (.int .i64 1)), none⟩]
def r9 : List AO := [⟨some 14, .mv (.t 0), none⟩,
  ⟨some 15, .mv (.t 1), none⟩,
  ⟨some 16, .bin .lss (.t 14) (.t 15), none⟩]
def r10 : List AO := [⟨some 4, .asg (.v (.int .i64 (-1))), none⟩]
def r11 : List AO := [⟨some 17, .mv (.t 0), none⟩,
  ⟨some 18, .mv (.t 1), none⟩,
  ⟨some 19, .bin .gtr (.t 17) (.t 18), none⟩]
def r12 : List AO := [⟨some 4, .asg (.v (.int .i64 1)), none⟩]
def r13 : List AO := [⟨some 4, .asg (.v (.int .i64 0)), none⟩]
def body : AC := .seq (.reg r0 [0, 1]) (.seq (.reg r1 [0, 1, 5]) (.seq (.reg r2 [0, 1, 5, 6]) (.seq (.seq (.reg r3 [0, 1, 6, 11]) (.cond (.t 11) (.seq (.seq (.reg r4 [12]) (.cond (.t 12) (.seq (.reg r5 [4]) (.ret)) (.skip))) (.seq (.reg r6 [4]) (.ret))) (.skip))) (.seq (.seq (.reg r7 [0, 1, 13]) (.cond (.t 13) (.seq (.reg r8 [4]) (.ret)) (.skip))) (.seq (.seq (.reg r9 [0, 1, 16]) (.cond (.t 16) (.seq (.reg r10 [4]) (.ret)) (.skip))) (.seq (.seq (.reg r11 [19]) (.cond (.t 19) (.seq (.reg r12 [4]) (.ret)) (.skip))) (.seq (.reg r13 [4]) (.ret))))))))
def fn : AFun := ⟨[.val, .val], 20, [.tmp 4], [], body⟩
end cmp_Compare_int
namespace hallmarkref03_width
def r0 : List AO := [⟨some 4, .asg (.v (.int .i64 0)), none⟩]
def r1 : List AO := [⟨some 8, .mv (.t 0), none⟩,
  ⟨some 9, .mv (.t 1), none⟩,
  ⟨some 10, .idxS (.t 8) (.t 9), none⟩,
  ⟨some 5, .asg (.t 10), none⟩]
def r2 : List AO := [⟨some 11, .mv (.t 5), none⟩,
  ⟨some 12, .bin .lss (.t 11) (.v (.int .u8 128)), none⟩]
def r3 : List AO := [⟨some 4, .asg (.v (.int .i64 1)), none⟩]
def r4 : List AO := [⟨some 13, .mv (.t 5), none⟩,
  ⟨some 14, .bin .geq (.t 13) (.v (.int .u8 194)), none⟩,
  ⟨some 15, .mv (.t 14), none⟩,
  ⟨some 16, .mv (.t 5), some (15, true)⟩,
  ⟨some 17, .bin .leq (.t 16) (.v (.int .u8 223)), some (15, true)⟩,
  ⟨some 18, .pick (.t 15) (.t 17) (.v (.bool false)), none⟩,
  ⟨some 19, .mv (.t 18), none⟩,
  ⟨some 20, .mv (.t 0), some (19, true)⟩,
  ⟨some 21, .mv (.t 1), some (19, true)⟩,
  ⟨some 22, .bin .add (.t 21) (.v (.int .i64 1)), some (19, true)⟩,
  ⟨some 23, .call .deep (.v (.clo F.hallmarkref03_trail [] [])) [.t 20, .t 22, .v (.int .i64 1), .v (.int .u8 128), .v (.int .u8 191)], some (19, true)⟩,
  ⟨some 24, .pick (.t 19) (.t 23) (.v (.bool false)), none⟩]
def r5 : List AO := [⟨some 4, .asg (.v (.int .i64 2)), none⟩]
def r6 : List AO := [⟨some 6, .asg (.v (.int .u8 128)), none⟩]
def r7 : List AO := [⟨some 7, .asg (.v (.int .u8 191)), none⟩]
def r8 : List AO := [⟨some 25, .mv (.t 5), none⟩,
  ⟨some 26, .bin .eql (.t 25) (.v (.int .u8 224)), none⟩]
def r9 : List AO := [⟨some 6, .asg (.v (.int .u8 160)), none⟩]
def r10 : List AO := [⟨some 27, .mv (.t 5), none⟩,
  ⟨some 28, .bin .eql (.t 27) (.v (.int .u8 237)), none⟩]
def r11 : List AO := [⟨some 7, .asg (.v (.int .u8 159)), none⟩]
def r12 : List AO := [⟨some 29, .mv (.t 5), none⟩,
  ⟨some 30, .bin .eql (.t 29) (.v (.int .u8 240)), none⟩]
def r13 : List AO := [⟨some 6, .asg (.v (.int .u8 144)), none⟩]
def r14 : List AO := [⟨some 31, .mv (.t 5), none⟩,
  ⟨some 32, .bin .eql (.t 31) (.v (.int .u8 244)), none⟩]
def r15 : List AO := [⟨some 7, .asg (.v (.int .u8 143)), none⟩]
def r16 : List AO := [⟨some 33, .mv (.t 5), none⟩,
  ⟨some 34, .bin .geq (.t 33) (.v (.int .u8 224)), none⟩,
  ⟨some 35, .mv (.t 34), none⟩,
  ⟨some 36, .mv (.t 5), some (35, true)⟩,
  ⟨some 37, .bin .leq (.t 36) (.v (.int .u8 239)), some (35, true)⟩,
  ⟨some 38, .pick (.t 35) (.t 37) (.v (.bool false)), none⟩,
  ⟨some 39, .mv (.t 38), none⟩,
  ⟨some 40, .mv (.t 0), some (39, true)⟩,
  ⟨some 41, .mv (.t 1), some (39, true)⟩,
  ⟨some 42, .bin .add (.t 41) (.v (.int .i64 1)), some (39, true)⟩,
  ⟨some 43, .mv (.t 6), some (39, true)⟩,
  ⟨some 44, .mv (.t 7), some (39, true)⟩,
  ⟨some 45, .call .deep (.v (.clo F.hallmarkref03_trail [] [])) [.t 40, .t 42, .v (.int .i64 2), .t 43, .t 44], some (39, true)⟩,
  ⟨some 46, .pick (.t 39) (.t 45) (.v (.bool false)), none⟩]
def r17 : List AO := [⟨some 4, .asg (.v (.int .i64 3)), none⟩]
def r18 : List AO := [⟨some 47, .mv (.t 5), none⟩,
  ⟨some 48, .bin .geq (.t 47) (.v (.int .u8 240)), none⟩,
  ⟨some 49, .mv (.t 48), none⟩,
  ⟨some 50, .mv (.t 5), some (49, true)⟩,
  ⟨some 51, .bin .leq (.t 50) (.v (.int .u8 244)), some (49, true)⟩,
  ⟨some 52, .pick (.t 49) (.t 51) (.v (.bool false)), none⟩,
  ⟨some 53, .mv (.t 52), none⟩,
  ⟨some 54, .mv (.t 0), some (53, true)⟩,
  ⟨some 55, .mv (.t 1), some (53, true)⟩,
  ⟨some 56, .bin .add (.t 55) (.v (.int .i64 1)), some (53, true)⟩,
  ⟨some 57, .mv (.t 6), some (53, true)⟩,
  ⟨some 58, .mv (.t 7), some (53, true)⟩,
  ⟨some 59, .call .deep (.v (.clo F.hallmarkref03_trail [] [])) [.t 54, .t 56, .v (.int .i64 3), .t 57, .t 58], some (53, true)⟩,
  ⟨some 60, .pick (.t 53) (.t 59) (.v (.bool false)), none⟩]
def r19 : List AO := [⟨some 4, .asg (.v (.int .i64 4)), none⟩]
def r20 : List AO := [⟨some 4, .asg (.v (.int .i64 0)), none⟩]
def body : AC := .seq (.reg r0 [0, 1]) (.seq (.reg r1 [0, 1, 5]) (.seq (.seq (.reg r2 [0, 1, 5, 12]) (.cond (.t 12) (.seq (.reg r3 [4]) (.ret)) (.skip))) (.seq (.seq (.reg r4 [0, 1, 5, 24]) (.cond (.t 24) (.seq (.reg r5 [4]) (.ret)) (.skip))) (.seq (.reg r6 [0, 1, 5, 6]) (.seq (.reg r7 [0, 1, 5, 6, 7]) (.seq (.seq (.reg r8 [0, 1, 5, 6, 7, 26]) (.cond (.t 26) (.reg r9 [0, 1, 5, 6, 7]) (.skip))) (.seq (.seq (.reg r10 [0, 1, 5, 6, 7, 28]) (.cond (.t 28) (.reg r11 [0, 1, 5, 6, 7]) (.skip))) (.seq (.seq (.reg r12 [0, 1, 5, 6, 7, 30]) (.cond (.t 30) (.reg r13 [0, 1, 5, 6, 7]) (.skip))) (.seq (.seq (.reg r14 [0, 1, 5, 6, 7, 32]) (.cond (.t 32) (.reg r15 [0, 1, 5, 6, 7]) (.skip))) (.seq (.seq (.reg r16 [0, 1, 5, 6, 7, 46]) (.cond (.t 46) (.seq (.reg r17 [4]) (.ret)) (.skip))) (.seq (.seq (.reg r18 [60]) (.cond (.t 60) (.seq (.reg r19 [4]) (.ret)) (.skip))) (.seq (.reg r20 [4]) (.ret)))))))))))))
def fn : AFun := ⟨[.val, .val], 61, [.tmp 4], [], body⟩
end hallmarkref03_width
namespace tens_Cmp
def r0 : List AO := [⟨some 4, .asg (.v (.int .i64 0)), none⟩,
  ⟨some 5, .asg (.v (.int .i64 0)), none⟩]
def r1 : List AO := [⟨some 10, .mv (.t 0), none⟩,
  ⟨some 11, .call .deep (.v (.clo F.tens_Formed [] [])) [.t 10], none⟩,
  ⟨some 12, .un .not (.t 11), none⟩,
  ⟨some 13, .mv (.t 12), none⟩,
  ⟨some 14, .mv (.t 1), some (13, false)⟩,
  ⟨some 15, .call .deep (.v (.clo F.tens_Formed [] [])) [.t 14], some (13, false)⟩,
  ⟨some 16, .un .not (.t 15), some (13, false)⟩,
  ⟨some 17, .pick (.t 13) (.v (.bool true)) (.t 16), none⟩]
def r2 : List AO := [⟨some 4, .asg (.v (.int .i64 0)), none⟩,
  ⟨some 5, .asg (.v (.int .i64 1)), none⟩]
def r3 : List AO := [⟨some 19, .mv (.t 0), none⟩,
  ⟨some 20, .call .deep (.v (.clo F.tens_split [] [])) [.t 19], none⟩,
  ⟨some 18, .mv (.t 20), none⟩,
  ⟨some 21, .ext (.t 18) 0, none⟩,
  ⟨some 22, .ext (.t 18) 1, none⟩,
  ⟨some 6, .asg (.t 21), none⟩,
  ⟨some 7, .asg (.t 22), none⟩]
def r4 : List AO := [⟨some 24, .mv (.t 1), none⟩,
  ⟨some 25, .call .deep (.v (.clo F.tens_split [] [])) [.t 24], none⟩,
  ⟨some 23, .mv (.t 25), none⟩,
  ⟨some 26, .ext (.t 23) 0, none⟩,
  ⟨some 27, .ext (.t 23) 1, none⟩,
  ⟨some 8, .asg (.t 26), none⟩,
  ⟨some 9, .asg (.t 27), none⟩]
def r5 : List AO := [⟨some 29, .mv (.t 6), none⟩,
  ⟨some 30, .mv (.t 29), none⟩,
  ⟨some 31, .mv (.t 8), some (30, true)⟩,
  ⟨some 32, .pick (.t 30) (.t 31) (.v (.bool false)), none⟩,
  ⟨some 28, .asg (.t 32), none⟩]
def r6 : List AO := [⟨some 33, .mv (.t 9), none⟩,
  ⟨some 34, .mv (.t 7), none⟩,
  ⟨some 35, .call .deep (.v (.clo F.tens_size [] [])) [.t 33, .t 34], none⟩,
  ⟨some 4, .asg (.t 35), none⟩,
  ⟨some 5, .asg (.v (.int .i64 0)), none⟩]
def r7 : List AO := [⟨some 37, .mv (.t 6), none⟩,
  ⟨some 36, .asg (.t 37), none⟩]
def r8 : List AO := [⟨some 4, .asg (.v (.int .i64 (-1))), none⟩,
  ⟨some 5, .asg (.v (.int .i64 0)), none⟩]
def r9 : List AO := [⟨some 39, .mv (.t 8), none⟩,
  ⟨some 38, .asg (.t 39), none⟩]
def r10 : List AO := [⟨some 4, .asg (.v (.int .i64 1)), none⟩,
  ⟨some 5, .asg (.v (.int .i64 0)), none⟩]
def r11 : List AO := [⟨some 40, .mv (.t 7), none⟩,
  ⟨some 41, .mv (.t 9), none⟩,
  ⟨some 42, .call .deep (.v (.clo F.tens_size [] [])) [.t 40, .t 41], none⟩,
  ⟨some 4, .asg (.t 42), none⟩,
  ⟨some 5, .asg (.v (.int .i64 0)), none⟩]
def body : AC := .seq (.reg r0 [0, 1]) (.seq (.seq (.reg r1 [0, 1, 17]) (.cond (.t 17) (.seq (.reg r2 [4, 5]) (.ret)) (.skip))) (.seq (.reg r3 [1, 6, 7]) (.seq (.reg r4 [6, 7, 8, 9]) (.seq (.block 0 (.seq (.reg r5 [6, 7, 8, 9, 28]) (.cond (.t 28) (.seq (.reg r6 [4, 5]) (.ret)) (.seq (.reg r7 [7, 8, 9, 36]) (.cond (.t 36) (.seq (.reg r8 [4, 5]) (.ret)) (.seq (.reg r9 [7, 9, 38]) (.cond (.t 38) (.seq (.reg r10 [4, 5]) (.ret)) (.skip)))))))) (.seq (.reg r11 [4, 5]) (.ret))))))
def fn : AFun := ⟨[.val, .val], 43, [.tmp 4, .tmp 5], [], body⟩
end tens_Cmp
namespace slices_Compare_Lstring_string
def r0 : List AO := [⟨some 4, .asg (.v (.int .i64 0)), none⟩]
def r1 : List AO := [⟨some 9, .mv (.t 0), none⟩,
  ⟨some 10, .len false (.t 9), none⟩,
  ⟨some 11, .mv (.v (.int .i64 0)), none⟩]
def r2 : List AO := [⟨some 12, .bin .lss (.t 11) (.t 10), none⟩]
def r3 : List AO := [⟨some 13, .mv (.t 11), none⟩,
  ⟨some 14, .iadr 1 (.t 9) (.t 11), none⟩,
  ⟨some 15, .load 1 false (.t 14), none⟩,
  ⟨some 5, .asg (.t 13), none⟩,
  ⟨some 6, .asg (.t 15), none⟩]
def r4 : List AO := [⟨some 16, .mv (.t 5), none⟩,
  ⟨some 17, .mv (.t 1), none⟩,
  ⟨some 18, .len false (.t 17), none⟩,
  ⟨some 19, .bin .geq (.t 16) (.t 18), none⟩]
def r5 : List AO := [⟨some 4, .asg (.v (.int .i64 1)), none⟩]
def r6 : List AO := [⟨some 20, .mv (.t 1), none⟩,
  ⟨some 21, .mv (.t 5), none⟩,
  ⟨some 22, .iadr 1 (.t 20) (.t 21), none⟩,
  ⟨some 23, .load 1 false (.t 22), none⟩,
  ⟨some 7, .asg (.t 23), none⟩]
def r7 : List AO := [⟨some 24, .mv (.t 6), none⟩,
  ⟨some 25, .mv (.t 7), none⟩,
  ⟨some 26, .call .deep (.v (.clo F.cmp_Compare_string [] [])) [.t 24, .t 25], none⟩,
  ⟨some 8, .asg (.t 26), none⟩]
def r8 : List AO := [⟨some 27, .mv (.t 8), none⟩,
  ⟨some 28, .bin .neq (.t 27) (.v (.int .i64 0)), none⟩]
def r9 : List AO := [⟨some 29, .mv (.t 8), none⟩,
  ⟨some 4, .asg (.t 29), none⟩]
def r10 : List AO := [⟨some 30, .bin .add (.t 11) (.v (.int .i64 1)), none⟩,
  ⟨some 11, .mv (.t 30), none⟩]
def l1 : AC := .seq (.reg r2 [0, 1, 9, 10, 11, 12]) (.seq (.cond (.t 12) (.skip) (.exit 0)) (.seq (.block 1 (.seq (.reg r3 [0, 1, 5, 6, 9, 10, 11]) (.seq (.seq (.reg r4 [0, 1, 5, 6, 9, 10, 11, 19]) (.cond (.t 19) (.seq (.reg r5 [4]) (.ret)) (.skip))) (.seq (.reg r6 [0, 1, 6, 7, 9, 10, 11]) (.seq (.reg r7 [0, 1, 8, 9, 10, 11]) (.seq (.reg r8 [0, 1, 8, 9, 10, 11, 28]) (.cond (.t 28) (.seq (.reg r9 [4]) (.ret)) (.skip)))))))) (.reg r10 [0, 1, 9, 10, 11])))
def r11 : List AO := [⟨some 31, .mv (.t 0), none⟩,
  ⟨some 32, .len false (.t 31), none⟩,
  ⟨some 33, .mv (.t 1), none⟩,
  ⟨some 34, .len false (.t 33), none⟩,
  ⟨some 35, .bin .lss (.t 32) (.t 34), none⟩]
def r12 : List AO := [⟨some 4, .asg (.v (.int .i64 (-1))), none⟩]
def r13 : List AO := [⟨some 4, .asg (.v (.int .i64 0)), none⟩]
def body : AC := .seq (.reg r0 [0, 1]) (.seq (.seq (.reg r1 [0, 1, 9, 10, 11]) (.block 0 (.loop [0, 1, 9, 10, 11] l1))) (.seq (.seq (.reg r11 [35]) (.cond (.t 35) (.seq (.reg r12 [4]) (.ret)) (.skip))) (.seq (.reg r13 [4]) (.ret))))
def fn : AFun := ⟨[.val, .val], 36, [.tmp 4], [], body⟩
end slices_Compare_Lstring_string
namespace cmp_Or_int
def r0 : List AO := [⟨some 2, .asg (.v (.int .i64 0)), none⟩]
def r1 : List AO := [⟨some 3, .asg (.v (.int .i64 0)), none⟩]
def r2 : List AO := [⟨some 6, .mv (.t 0), none⟩,
  ⟨some 7, .len false (.t 6), none⟩,
  ⟨some 8, .mv (.v (.int .i64 0)), none⟩]
def r3 : List AO := [⟨some 9, .bin .lss (.t 8) (.t 7), none⟩]
def r4 : List AO := [⟨some 10, .iadr 1 (.t 6) (.t 8), none⟩,
  ⟨some 11, .load 1 false (.t 10), none⟩,
  ⟨some 5, .asg (.t 11), none⟩]
def r5 : List AO := [⟨some 12, .mv (.t 5), none⟩,
  ⟨some 13, .mv (.t 3), none⟩,
  ⟨some 14, .bin .neq (.t 12) (.t 13), none⟩]
def r6 : List AO := [⟨some 15, .mv (.t 5), none⟩,
  ⟨some 2, .asg (.t 15), none⟩]
def r7 : List AO := [⟨some 16, .bin .add (.t 8) (.v (.int .i64 1)), none⟩,
  ⟨some 8, .mv (.t 16), none⟩]
def l1 : AC := .seq (.reg r3 [3, 6, 7, 8, 9]) (.seq (.cond (.t 9) (.skip) (.exit 0)) (.seq (.block 1 (.seq (.reg r4 [3, 5, 6, 7, 8]) (.seq (.reg r5 [3, 5, 6, 7, 8, 14]) (.cond (.t 14) (.seq (.reg r6 [2]) (.ret)) (.skip))))) (.reg r7 [3, 6, 7, 8])))
def r8 : List AO := [⟨some 17, .mv (.t 3), none⟩,
  ⟨some 2, .asg (.t 17), none⟩]
def body : AC := .seq (.reg r0 [0]) (.seq (.reg r1 [0, 3]) (.seq (.seq (.reg r2 [3, 6, 7, 8]) (.block 0 (.loop [3, 6, 7, 8] l1))) (.seq (.reg r8 [2]) (.ret))))
def fn : AFun := ⟨[.val], 18, [.tmp 2], [], body⟩
end cmp_Or_int
namespace cmp_isNaN_int
def r0 : List AO := [⟨some 2, .asg (.v (.bool false)), none⟩]
def r1 : List AO := [⟨some 3, .mv (.t 0), none⟩,
  ⟨some 4, .mv (.t 0), none⟩,
  ⟨some 5, .bin .neq (.t 3) (.t 4), none⟩,
  ⟨some 2, .asg (.t 5), none⟩]
def body : AC := .seq (.reg r0 [0]) (.seq (.reg r1 [2]) (.ret))
def fn : AFun := ⟨[.val], 6, [.tmp 2], [], body⟩
end cmp_isNaN_int
namespace hallmarkref03_trail
def r0 : List AO := [⟨some 10, .asg (.v (.bool false)), none⟩]
def r1 : List AO := [⟨some 12, .mv (.t 1), none⟩,
  ⟨some 13, .mv (.t 2), none⟩,
  ⟨some 14, .bin .add (.t 12) (.t 13), none⟩,
  ⟨some 15, .mv (.t 0), none⟩,
  ⟨some 16, .len true (.t 15), none⟩,
  ⟨some 17, .bin .gtr (.t 14) (.t 16), none⟩]
def r2 : List AO := [⟨some 10, .asg (.v (.bool false)), none⟩]
def r3 : List AO := [⟨some 11, .asg (.v (.int .i64 0)), none⟩]
def r4 : List AO := [⟨some 18, .mv (.t 11), none⟩,
  ⟨some 19, .mv (.t 2), none⟩,
  ⟨some 20, .bin .lss (.t 18) (.t 19), none⟩]
def r6 : List AO := [⟨some 23, .mv (.t 0), none⟩,
  ⟨some 24, .mv (.t 1), none⟩,
  ⟨some 25, .mv (.t 11), none⟩,
  ⟨some 26, .bin .add (.t 24) (.t 25), none⟩,
  ⟨some 27, .idxS (.t 23) (.t 26), none⟩,
  ⟨some 28, .bin .lss (.t 27) (.v (.int .u8 128)), none⟩,
  ⟨some 29, .mv (.t 28), none⟩,
  ⟨some 30, .mv (.t 0), some (29, false)⟩,
  ⟨some 31, .mv (.t 1), some (29, false)⟩,
  ⟨some 32, .mv (.t 11), some (29, false)⟩,
  ⟨some 33, .bin .add (.t 31) (.t 32), some (29, false)⟩,
  ⟨some 34, .idxS (.t 30) (.t 33), some (29, false)⟩,
  ⟨some 35, .bin .gtr (.t 34) (.v (.int .u8 191)), some (29, false)⟩,
  ⟨some 36, .pick (.t 29) (.v (.bool true)) (.t 35), none⟩]
def r7 : List AO := [⟨some 10, .asg (.v (.bool false)), none⟩]
def r5 : List AO := [⟨some 21, .mv (.t 11), none⟩,
  ⟨some 22, .bin .add (.t 21) (.v (.int .i64 1)), none⟩,
  ⟨some 11, .asg (.t 22), none⟩]
def l1 : AC := .seq (.seq (.reg r4 [0, 1, 2, 3, 4, 11, 20]) (.cond (.t 20) (.skip) (.exit 0))) (.seq (.block 1 (.seq (.reg r6 [0, 1, 2, 3, 4, 11, 36]) (.cond (.t 36) (.seq (.reg r7 [10]) (.ret)) (.skip)))) (.reg r5 [0, 1, 2, 3, 4, 11]))
def r8 : List AO := [⟨some 37, .mv (.t 0), none⟩,
  ⟨some 38, .mv (.t 1), none⟩,
  ⟨some 39, .idxS (.t 37) (.t 38), none⟩,
  ⟨some 40, .mv (.t 3), none⟩,
  ⟨some 41, .bin .geq (.t 39) (.t 40), none⟩,
  ⟨some 42, .mv (.t 41), none⟩,
  ⟨some 43, .mv (.t 0), some (42, true)⟩,
  ⟨some 44, .mv (.t 1), some (42, true)⟩,
  ⟨some 45, .idxS (.t 43) (.t 44), some (42, true)⟩,
  ⟨some 46, .mv (.t 4), some (42, true)⟩,
  ⟨some 47, .bin .leq (.t 45) (.t 46), some (42, true)⟩,
  ⟨some 48, .pick (.t 42) (.t 47) (.v (.bool false)), none⟩,
  ⟨some 10, .asg (.t 48), none⟩]
def body : AC := .seq (.reg r0 [0, 1, 2, 3, 4]) (.seq (.seq (.reg r1 [0, 1, 2, 3, 4, 17]) (.cond (.t 17) (.seq (.reg r2 [10]) (.ret)) (.skip))) (.seq (.seq (.reg r3 [0, 1, 2, 3, 4, 11]) (.block 0 (.loop [0, 1, 2, 3, 4, 11] l1))) (.seq (.reg r8 [10]) (.ret))))
def fn : AFun := ⟨[.val, .val, .val, .val, .val], 49, [.tmp 10], [], body⟩
end hallmarkref03_trail
namespace tens_Formed
def r0 : List AO := [⟨some 2, .asg (.v (.bool false)), none⟩]
def r1 : List AO := [⟨some 4, .mv (.t 0), none⟩,
  ⟨some 5, .bin .eql (.t 4) (.v (.str [48])), none⟩]
def r2 : List AO := [⟨some 2, .asg (.v (.bool true)), none⟩]
def r3 : List AO := [⟨some 6, .mv (.t 0), none⟩,
  ⟨some 7, .bin .neq (.t 6) (.v (.str [])), none⟩,
  ⟨some 8, .mv (.t 7), none⟩,
  ⟨some 9, .mv (.t 0), some (8, true)⟩,
  ⟨some 10, .idxS (.t 9) (.v (.int .i64 0)), some (8, true)⟩,
  ⟨some 11, .bin .eql (.t 10) (.v (.int .u8 45)), some (8, true)⟩,
  ⟨some 12, .pick (.t 8) (.t 11) (.v (.bool false)), none⟩]
def r4 : List AO := [⟨some 13, .mv (.t 0), none⟩,
  ⟨some 14, .slc true 1 (.t 13) (some (.v (.int .i64 1))) none, none⟩,
  ⟨some 0, .asg (.t 14), none⟩]
def r5 : List AO := [⟨some 15, .mv (.t 0), none⟩,
  ⟨some 16, .bin .eql (.t 15) (.v (.str [])), none⟩,
  ⟨some 17, .mv (.t 16), none⟩,
  ⟨some 18, .mv (.t 0), some (17, false)⟩,
  ⟨some 19, .idxS (.t 18) (.v (.int .i64 0)), some (17, false)⟩,
  ⟨some 20, .bin .eql (.t 19) (.v (.int .u8 48)), some (17, false)⟩,
  ⟨some 21, .pick (.t 17) (.v (.bool true)) (.t 20), none⟩]
def r6 : List AO := [⟨some 2, .asg (.v (.bool false)), none⟩]
def r7 : List AO := [⟨some 22, .mv (.t 0), none⟩,
  ⟨some 23, .len true (.t 22), none⟩,
  ⟨some 24, .mv (.v (.int .i64 0)), none⟩]
def r8 : List AO := [⟨some 25, .bin .lss (.t 24) (.t 23), none⟩]
def r9 : List AO := [⟨some 26, .mv (.t 24), none⟩,
  ⟨some 3, .asg (.t 26), none⟩]
def r10 : List AO := [⟨some 27, .mv (.t 0), none⟩,
  ⟨some 28, .mv (.t 3), none⟩,
  ⟨some 29, .idxS (.t 27) (.t 28), none⟩,
  ⟨some 30, .bin .lss (.t 29) (.v (.int .u8 48)), none⟩,
  ⟨some 31, .mv (.t 30), none⟩,
  ⟨some 32, .mv (.t 0), some (31, false)⟩,
  ⟨some 33, .mv (.t 3), some (31, false)⟩,
  ⟨some 34, .idxS (.t 32) (.t 33), some (31, false)⟩,
  ⟨some 35, .bin .gtr (.t 34) (.v (.int .u8 57)), some (31, false)⟩,
  ⟨some 36, .pick (.t 31) (.v (.bool true)) (.t 35), none⟩]
def r11 : List AO := [⟨some 2, .asg (.v (.bool false)), none⟩]
def r12 : List AO := [⟨some 37, .bin .add (.t 24) (.v (.int .i64 1)), none⟩,
  ⟨some 24, .mv (.t 37), none⟩]
def l1 : AC := .seq (.reg r8 [0, 23, 24, 25]) (.seq (.cond (.t 25) (.skip) (.exit 0)) (.seq (.block 1 (.seq (.reg r9 [0, 3, 23, 24]) (.seq (.reg r10 [0, 23, 24, 36]) (.cond (.t 36) (.seq (.reg r11 [2]) (.ret)) (.skip))))) (.reg r12 [0, 23, 24])))
def r13 : List AO := [⟨some 2, .asg (.v (.bool true)), none⟩]
def body : AC := .seq (.reg r0 [0]) (.seq (.seq (.reg r1 [0, 5]) (.cond (.t 5) (.seq (.reg r2 [2]) (.ret)) (.skip))) (.seq (.seq (.reg r3 [0, 12]) (.cond (.t 12) (.reg r4 [0]) (.skip))) (.seq (.seq (.reg r5 [0, 21]) (.cond (.t 21) (.seq (.reg r6 [2]) (.ret)) (.skip))) (.seq (.seq (.reg r7 [0, 23, 24]) (.block 0 (.loop [0, 23, 24] l1))) (.seq (.reg r13 [2]) (.ret))))))
def fn : AFun := ⟨[.val], 38, [.tmp 2], [], body⟩
end tens_Formed
namespace tens_split
def r0 : List AO := [⟨some 2, .asg (.v (.bool false)), none⟩,
  ⟨some 3, .asg (.v (.str [])), none⟩]
def r1 : List AO := [⟨some 4, .mv (.t 0), none⟩,
  ⟨some 5, .idxS (.t 4) (.v (.int .i64 0)), none⟩,
  ⟨some 6, .bin .eql (.t 5) (.v (.int .u8 45)), none⟩]
def r2 : List Ph := [.bag false [] [0] [(0, ⟨some 7, .mv (.t 0), none⟩),
    (1, ⟨some 8, .slc true 1 (.t 7) (some (.v (.int .i64 1))) none, none⟩),
    (2, ⟨some 2, .asg (.v (.bool true)), none⟩),
    (3, ⟨some 3, .asg (.t 8), none⟩)]]
def r3 : List AO := [⟨some 9, .mv (.t 0), none⟩,
  ⟨some 2, .asg (.v (.bool false)), none⟩,
  ⟨some 3, .asg (.t 9), none⟩]
def body : AC := .seq (.reg r0 [0]) (.seq (.seq (.reg r1 [0, 6]) (.cond (.t 6) (.seq (.dreg r2 [2, 3]) (.ret)) (.skip))) (.seq (.reg r3 [2, 3]) (.ret)))
def fn : AFun := ⟨[.val], 10, [.tmp 2, .tmp 3], [], body⟩
end tens_split
namespace tens_size
def r0 : List AO := [⟨some 4, .asg (.v (.int .i64 0)), none⟩]
def r1 : List AO := [⟨some 6, .mv (.t 0), none⟩,
  ⟨some 7, .len true (.t 6), none⟩,
  ⟨some 8, .mv (.t 1), none⟩,
  ⟨some 9, .len true (.t 8), none⟩,
  ⟨some 10, .bin .neq (.t 7) (.t 9), none⟩,
  ⟨some 5, .asg (.t 10), none⟩]
def r2 : List AO := [⟨some 11, .mv (.t 0), none⟩,
  ⟨some 12, .len true (.t 11), none⟩,
  ⟨some 13, .mv (.t 1), none⟩,
  ⟨some 14, .len true (.t 13), none⟩,
  ⟨some 15, .bin .sub (.t 12) (.t 14), none⟩,
  ⟨some 16, .mm true [.t 15, .v (.int .i64 (-1))], none⟩,
  ⟨some 17, .mm false [.t 16, .v (.int .i64 1)], none⟩,
  ⟨some 4, .asg (.t 17), none⟩]
def r3 : List AO := [⟨some 19, .mv (.t 0), none⟩,
  ⟨some 20, .mv (.t 1), none⟩,
  ⟨some 21, .bin .lss (.t 19) (.t 20), none⟩,
  ⟨some 18, .asg (.t 21), none⟩]
def r4 : List AO := [⟨some 4, .asg (.v (.int .i64 (-1))), none⟩]
def r5 : List AO := [⟨some 23, .mv (.t 0), none⟩,
  ⟨some 24, .mv (.t 1), none⟩,
  ⟨some 25, .bin .gtr (.t 23) (.t 24), none⟩,
  ⟨some 22, .asg (.t 25), none⟩]
def r6 : List AO := [⟨some 4, .asg (.v (.int .i64 1)), none⟩]
def r7 : List AO := [⟨some 4, .asg (.v (.int .i64 0)), none⟩]
def body : AC := .seq (.reg r0 [0, 1]) (.seq (.block 0 (.seq (.reg r1 [0, 1, 5]) (.cond (.t 5) (.seq (.reg r2 [4]) (.ret)) (.seq (.reg r3 [0, 1, 18]) (.cond (.t 18) (.seq (.reg r4 [4]) (.ret)) (.seq (.reg r5 [22]) (.cond (.t 22) (.seq (.reg r6 [4]) (.ret)) (.skip)))))))) (.seq (.reg r7 [4]) (.ret)))
def fn : AFun := ⟨[.val, .val], 26, [.tmp 4], [], body⟩
end tens_size
namespace cmp_Compare_string
def r0 : List AO := [⟨some 4, .asg (.v (.int .i64 0)), none⟩]
def r1 : List AO := [⟨some 7, .mv (.t 0), none⟩,
  ⟨some 8, .call .deep (.v (.clo F.cmp_isNaN_string [] [])) [.t 7], none⟩,
  ⟨some 5, .asg (.t 8), none⟩]
def r2 : List AO := [⟨some 9, .mv (.t 1), none⟩,
  ⟨some 10, .call .deep (.v (.clo F.cmp_isNaN_string [] [])) [.t 9], none⟩,
  ⟨some 6, .asg (.t 10), none⟩]
def r3 : List AO := [⟨some 11, .mv (.t 5), none⟩]
def r4 : List AO := [⟨some 12, .mv (.t 6), none⟩]
def r5 : List AO := [⟨some 4, .asg (.v (.int .i64 0)), none⟩]
def r6 : List AO := [⟨some 4, .asg (.v (.int .i64 (-1))), none⟩]
def r7 : List AO := [⟨some 13, .mv (.t 6), none⟩]
def r8 : List AO := [⟨some 4, .asg (.v (.int .i64 1)), none⟩]
def r9 : List AO := [⟨some 14, .mv (.t 0), none⟩,
  ⟨some 15, .mv (.t 1), none⟩,
  ⟨some 16, .bin .lss (.t 14) (.t 15), none⟩]
def r10 : List AO := [⟨some 4, .asg (.v (.int .i64 (-1))), none⟩]
def r11 : List AO := [⟨some 17, .mv (.t 0), none⟩,
  ⟨some 18, .mv (.t 1), none⟩,
  ⟨some 19, .bin .gtr (.t 17) (.t 18), none⟩]
def r12 : List AO := [⟨some 4, .asg (.v (.int .i64 1)), none⟩]
def r13 : List AO := [⟨some 4, .asg (.v (.int .i64 0)), none⟩]
def body : AC := .seq (.reg r0 [0, 1]) (.seq (.reg r1 [0, 1, 5]) (.seq (.reg r2 [0, 1, 5, 6]) (.seq (.seq (.reg r3 [0, 1, 6, 11]) (.cond (.t 11) (.seq (.seq (.reg r4 [12]) (.cond (.t 12) (.seq (.reg r5 [4]) (.ret)) (.skip))) (.seq (.reg r6 [4]) (.ret))) (.skip))) (.seq (.seq (.reg r7 [0, 1, 13]) (.cond (.t 13) (.seq (.reg r8 [4]) (.ret)) (.skip))) (.seq (.seq (.reg r9 [0, 1, 16]) (.cond (.t 16) (.seq (.reg r10 [4]) (.ret)) (.skip))) (.seq (.seq (.reg r11 [19]) (.cond (.t 19) (.seq (.reg r12 [4]) (.ret)) (.skip))) (.seq (.reg r13 [4]) (.ret))))))))
def fn : AFun := ⟨[.val, .val], 20, [.tmp 4], [], body⟩
end cmp_Compare_string
namespace cmp_isNaN_string
def r0 : List AO := [⟨some 2, .asg (.v (.bool false)), none⟩]
def r1 : List AO := [⟨some 3, .mv (.t 0), none⟩,
  ⟨some 4, .mv (.t 0), none⟩,
  ⟨some 5, .bin .neq (.t 3) (.t 4), none⟩,
  ⟨some 2, .asg (.t 5), none⟩]
def body : AC := .seq (.reg r0 [0]) (.seq (.reg r1 [2]) (.ret))
def fn : AFun := ⟨[.val], 6, [.tmp 2], [], body⟩
end cmp_isNaN_string
namespace hallmarkref03_Numbers
def r0 : List AO := [⟨some 4, .asg (.v (.int .i64 0)), none⟩]
def r1 : List AO := [⟨some 7, .mv (.t 0), none⟩,
  ⟨some 8, .idxS (.t 7) (.v (.int .i64 0)), none⟩,
  ⟨some 9, .bin .eql (.t 8) (.v (.int .u8 45)), none⟩,
  ⟨some 5, .asg (.t 9), none⟩]
def r2 : List AO := [⟨some 10, .mv (.t 1), none⟩,
  ⟨some 11, .idxS (.t 10) (.v (.int .i64 0)), none⟩,
  ⟨some 12, .bin .eql (.t 11) (.v (.int .u8 45)), none⟩,
  ⟨some 6, .asg (.t 12), none⟩]
def r3 : List AO := [⟨some 13, .mv (.t 5), none⟩,
  ⟨some 14, .mv (.t 13), none⟩,
  ⟨some 15, .mv (.t 6), some (14, true)⟩,
  ⟨some 16, .un .not (.t 15), some (14, true)⟩,
  ⟨some 17, .pick (.t 14) (.t 16) (.v (.bool false)), none⟩]
def r4 : List AO := [⟨some 4, .asg (.v (.int .i64 (-1))), none⟩]
def r5 : List AO := [⟨some 18, .mv (.t 6), none⟩,
  ⟨some 19, .mv (.t 18), none⟩,
  ⟨some 20, .mv (.t 5), some (19, true)⟩,
  ⟨some 21, .un .not (.t 20), some (19, true)⟩,
  ⟨some 22, .pick (.t 19) (.t 21) (.v (.bool false)), none⟩]
def r6 : List AO := [⟨some 4, .asg (.v (.int .i64 1)), none⟩]
def r7 : List AO := [⟨some 23, .mv (.t 5), none⟩]
def r8 : List Ph := [.bag false [] [0, 1] [(0, ⟨some 24, .mv (.t 1), none⟩),
    (1, ⟨some 25, .slc true 1 (.t 24) (some (.v (.int .i64 1))) none, none⟩),
    (2, ⟨some 26, .mv (.t 0), none⟩),
    (3, ⟨some 27, .slc true 1 (.t 26) (some (.v (.int .i64 1))) none, none⟩),
    (4, ⟨some 28, .call .deep (.v (.clo F.hallmarkref03_Numbers [] [])) [.t 25, .t 27], none⟩),
    (5, ⟨some 4, .asg (.t 28), none⟩)]]
def r9 : List AO := [⟨some 29, .mv (.t 0), none⟩,
  ⟨some 30, .len true (.t 29), none⟩,
  ⟨some 31, .mv (.t 1), none⟩,
  ⟨some 32, .len true (.t 31), none⟩,
  ⟨some 33, .bin .neq (.t 30) (.t 32), none⟩]
def r10 : List AO := [⟨some 34, .mv (.t 0), none⟩,
  ⟨some 35, .len true (.t 34), none⟩,
  ⟨some 36, .mv (.t 1), none⟩,
  ⟨some 37, .len true (.t 36), none⟩,
  ⟨some 38, .bin .lss (.t 35) (.t 37), none⟩]
def r11 : List AO := [⟨some 4, .asg (.v (.int .i64 (-1))), none⟩]
def r12 : List AO := [⟨some 4, .asg (.v (.int .i64 1)), none⟩]
def r13 : List AO := [⟨some 39, .mv (.t 0), none⟩,
  ⟨some 40, .mv (.t 1), none⟩,
  ⟨some 41, .call .deep (.v (.clo F.hallmarkref03_Texts [] [])) [.t 39, .t 40], none⟩,
  ⟨some 4, .asg (.t 41), none⟩]
def body : AC := .seq (.reg r0 [0, 1]) (.seq (.reg r1 [0, 1, 5]) (.seq (.reg r2 [0, 1, 5, 6]) (.seq (.seq (.reg r3 [0, 1, 5, 6, 17]) (.cond (.t 17) (.seq (.reg r4 [4]) (.ret)) (.skip))) (.seq (.seq (.reg r5 [0, 1, 5, 22]) (.cond (.t 22) (.seq (.reg r6 [4]) (.ret)) (.skip))) (.seq (.seq (.reg r7 [0, 1, 23]) (.cond (.t 23) (.seq (.dreg r8 [4]) (.ret)) (.skip))) (.seq (.seq (.reg r9 [0, 1, 33]) (.cond (.t 33) (.seq (.seq (.reg r10 [38]) (.cond (.t 38) (.seq (.reg r11 [4]) (.ret)) (.skip))) (.seq (.reg r12 [4]) (.ret))) (.skip))) (.seq (.reg r13 [4]) (.ret))))))))
def fn : AFun := ⟨[.val, .val], 42, [.tmp 4], [], body⟩
end hallmarkref03_Numbers
namespace hallmarkref03_Texts
def r0 : List AO := [⟨some 4, .asg (.v (.int .i64 0)), none⟩]
def r1 : List AO := [⟨some 5, .mv (.t 0), none⟩,
  ⟨some 6, .mv (.t 1), none⟩,
  ⟨some 7, .bin .lss (.t 5) (.t 6), none⟩]
def r2 : List AO := [⟨some 4, .asg (.v (.int .i64 (-1))), none⟩]
def r3 : List AO := [⟨some 8, .mv (.t 0), none⟩,
  ⟨some 9, .mv (.t 1), none⟩,
  ⟨some 10, .bin .gtr (.t 8) (.t 9), none⟩]
def r4 : List AO := [⟨some 4, .asg (.v (.int .i64 1)), none⟩]
def r5 : List AO := [⟨some 4, .asg (.v (.int .i64 0)), none⟩]
def body : AC := .seq (.reg r0 [0, 1]) (.seq (.seq (.reg r1 [0, 1, 7]) (.cond (.t 7) (.seq (.reg r2 [4]) (.ret)) (.skip))) (.seq (.seq (.reg r3 [10]) (.cond (.t 10) (.seq (.reg r4 [4]) (.ret)) (.skip))) (.seq (.reg r5 [4]) (.ret))))
def fn : AFun := ⟨[.val, .val], 11, [.tmp 4], [], body⟩
end hallmarkref03_Texts
namespace hallmarkkit_FitType
def r0 : List AO := [⟨some 1, .box (.t 0), none⟩,
  ⟨some 2, .asg (.v (.bool false)), none⟩]
def r1 : List AO := [⟨some 3, .take 9 true (.t 1), none⟩,
  ⟨some 4, .call .deep (.v (.clo F.hallmarkkit_typeParts [] [])) [.t 3, .v (.int .i64 20000)], none⟩,
  ⟨some 5, .bin .leq (.t 4) (.v (.int .i64 20000)), none⟩,
  ⟨some 2, .asg (.t 5), none⟩]
def body : AC := .seq (.reg r0 [1]) (.seq (.reg r1 [2]) (.ret))
def fn : AFun := ⟨[.val], 6, [.tmp 2], [], body⟩
end hallmarkkit_FitType
namespace hallmarkref09_Formed
def r0 : List AO := [⟨some 1, .box (.t 0), none⟩,
  ⟨some 2, .asg (.v (.bool false)), none⟩]
def r1 : List AO := [⟨some 3, .fadr 0 (.t 1), none⟩,
  ⟨some 4, .load 1 false (.t 3), none⟩,
  ⟨some 5, .mv (.t 4), none⟩,
  ⟨some 6, .load 9 true (.t 1), some (5, true)⟩,
  ⟨some 7, .call .deep (.v (.clo F.hallmarkref09_Bare [] [])) [.t 6], some (5, true)⟩,
  ⟨some 8, .un .not (.t 7), some (5, true)⟩,
  ⟨some 9, .pick (.t 5) (.t 8) (.v (.bool false)), none⟩]
def r2 : List AO := [⟨some 2, .asg (.v (.bool false)), none⟩]
def r3 : List AO := [⟨some 10, .fadr 6 (.t 1), none⟩,
  ⟨some 11, .load 1 false (.t 10), none⟩,
  ⟨some 12, .call .deep (.v (.clo F.hallmarkref03_Rise [] [])) [.t 11], none⟩,
  ⟨some 13, .un .not (.t 12), none⟩,
  ⟨some 14, .mv (.t 13), none⟩,
  ⟨some 15, .fadr 5 (.t 1), some (14, false)⟩,
  ⟨some 16, .load 1 false (.t 15), some (14, false)⟩,
  ⟨some 17, .mv (.t 16), some (14, false)⟩,
  ⟨some 18, .fadr 6 (.t 1), some (17, true)⟩,
  ⟨some 19, .load 1 false (.t 18), some (17, true)⟩,
  ⟨some 20, .len false (.t 19), some (17, true)⟩,
  ⟨some 21, .bin .gtr (.t 20) (.v (.int .i64 0)), some (17, true)⟩,
  ⟨some 22, .pick (.t 17) (.t 21) (.v (.bool false)), some (14, false)⟩,
  ⟨some 23, .pick (.t 14) (.v (.bool true)) (.t 22), none⟩]
def r4 : List AO := [⟨some 2, .asg (.v (.bool false)), none⟩]
def r5 : List AO := [⟨some 24, .fadr 4 (.t 1), none⟩,
  ⟨some 25, .load 1 false (.t 24), none⟩,
  ⟨some 26, .call .deep (.v (.clo F.hallmarkref09_Spans [] [])) [.t 25], none⟩,
  ⟨some 27, .mv (.t 26), none⟩,
  ⟨some 28, .fadr 7 (.t 1), some (27, true)⟩,
  ⟨some 29, .load 1 false (.t 28), some (27, true)⟩,
  ⟨some 30, .call .deep (.v (.clo F.hallmarkref09_arrays [] [])) [.t 29], some (27, true)⟩,
  ⟨some 31, .pick (.t 27) (.t 30) (.v (.bool false)), none⟩,
  ⟨some 32, .mv (.t 31), none⟩,
  ⟨some 33, .fadr 8 (.t 1), some (32, true)⟩,
  ⟨some 34, .take 1 false (.t 33), some (32, true)⟩,
  ⟨some 35, .call .deep (.v (.clo F.hallmarkref09_objects [] [])) [.t 34], some (32, true)⟩,
  ⟨some 36, .pick (.t 32) (.t 35) (.v (.bool false)), none⟩,
  ⟨some 2, .asg (.t 36), none⟩]
def body : AC := .seq (.reg r0 [1]) (.seq (.seq (.reg r1 [1, 9]) (.cond (.t 9) (.seq (.reg r2 [2]) (.ret)) (.skip))) (.seq (.seq (.reg r3 [1, 23]) (.cond (.t 23) (.seq (.reg r4 [2]) (.ret)) (.skip))) (.seq (.reg r5 [2]) (.ret))))
def fn : AFun := ⟨[.val], 37, [.tmp 2], [], body⟩
end hallmarkref09_Formed
namespace hallmarklaw09_ShapeRow
def r0 : List AO := [⟨some 3, .box (.t 0), none⟩,
  ⟨some 4, .box (.t 1), none⟩,
  ⟨some 5, .box (.t 2), none⟩,
  ⟨some 6, .asg (.v (.bool false)), none⟩]
def r1 : List AO := [⟨some 11, .build [.av (.bool false), .av (.bool false), .av (.bool false), .av (.bool false), .own 2 [], .av (.bool false), .own 1 [], .own 11 [], .own 12 []] [], none⟩,
  ⟨some 12, .build [.av (.bool false), .av (.bool false), .av (.bool false), .av (.bool false), .own 2 [], .av (.bool false), .own 1 [], .own 11 [], .own 12 []] [(0, 1, .v (.bool true))], none⟩,
  ⟨some 13, .call .deep (.v (.clo F.shape_Cmp [] [])) [.t 11, .t 12], none⟩,
  ⟨some 14, .bin .neq (.t 13) (.v (.int .i64 (-1))), none⟩]
def r2 : List AO := [⟨some 6, .asg (.v (.bool false)), none⟩]
def r3 : List AO := [⟨some 15, .load 9 true (.t 3), none⟩,
  ⟨some 16, .call .deep (.v (.clo F.hallmarkkit_FitType [] [])) [.t 15], none⟩,
  ⟨some 17, .un .not (.t 16), none⟩,
  ⟨some 18, .mv (.t 17), none⟩,
  ⟨some 19, .load 9 true (.t 4), some (18, false)⟩,
  ⟨some 20, .call .deep (.v (.clo F.hallmarkkit_FitType [] [])) [.t 19], some (18, false)⟩,
  ⟨some 21, .un .not (.t 20), some (18, false)⟩,
  ⟨some 22, .pick (.t 18) (.v (.bool true)) (.t 21), none⟩,
  ⟨some 23, .mv (.t 22), none⟩,
  ⟨some 24, .load 9 true (.t 5), some (23, false)⟩,
  ⟨some 25, .call .deep (.v (.clo F.hallmarkkit_FitType [] [])) [.t 24], some (23, false)⟩,
  ⟨some 26, .un .not (.t 25), some (23, false)⟩,
  ⟨some 27, .pick (.t 23) (.v (.bool true)) (.t 26), none⟩,
  ⟨some 28, .mv (.t 27), none⟩,
  ⟨some 29, .load 9 true (.t 3), some (28, false)⟩,
  ⟨some 30, .call .deep (.v (.clo F.hallmarkref09_Formed [] [])) [.t 29], some (28, false)⟩,
  ⟨some 31, .un .not (.t 30), some (28, false)⟩,
  ⟨some 32, .pick (.t 28) (.v (.bool true)) (.t 31), none⟩,
  ⟨some 33, .mv (.t 32), none⟩,
  ⟨some 34, .load 9 true (.t 4), some (33, false)⟩,
  ⟨some 35, .call .deep (.v (.clo F.hallmarkref09_Formed [] [])) [.t 34], some (33, false)⟩,
  ⟨some 36, .un .not (.t 35), some (33, false)⟩,
  ⟨some 37, .pick (.t 33) (.v (.bool true)) (.t 36), none⟩,
  ⟨some 38, .mv (.t 37), none⟩,
  ⟨some 39, .load 9 true (.t 5), some (38, false)⟩,
  ⟨some 40, .call .deep (.v (.clo F.hallmarkref09_Formed [] [])) [.t 39], some (38, false)⟩,
  ⟨some 41, .un .not (.t 40), some (38, false)⟩,
  ⟨some 42, .pick (.t 38) (.v (.bool true)) (.t 41), none⟩]
def r4 : List AO := [⟨some 6, .asg (.v (.bool true)), none⟩]
def r5 : List AO := [⟨some 43, .load 9 true (.t 3), none⟩,
  ⟨some 44, .load 9 true (.t 4), none⟩,
  ⟨some 45, .call .deep (.v (.clo F.shape_Cmp [] [])) [.t 43, .t 44], none⟩,
  ⟨some 7, .asg (.t 45), none⟩]
def r6 : List AO := [⟨some 46, .load 9 true (.t 4), none⟩,
  ⟨some 47, .load 9 true (.t 3), none⟩,
  ⟨some 48, .call .deep (.v (.clo F.shape_Cmp [] [])) [.t 46, .t 47], none⟩,
  ⟨some 8, .asg (.t 48), none⟩]
def r7 : List AO := [⟨some 49, .load 9 true (.t 4), none⟩,
  ⟨some 50, .load 9 true (.t 5), none⟩,
  ⟨some 51, .call .deep (.v (.clo F.shape_Cmp [] [])) [.t 49, .t 50], none⟩,
  ⟨some 9, .asg (.t 51), none⟩]
def r8 : List AO := [⟨some 52, .load 9 true (.t 3), none⟩,
  ⟨some 53, .take 9 true (.t 5), none⟩,
  ⟨some 54, .call .deep (.v (.clo F.shape_Cmp [] [])) [.t 52, .t 53], none⟩,
  ⟨some 10, .asg (.t 54), none⟩]
def r9 : List AO := [⟨some 55, .mv (.t 7), none⟩,
  ⟨some 56, .bin .lss (.t 55) (.v (.int .i64 (-1))), none⟩,
  ⟨some 57, .mv (.t 56), none⟩,
  ⟨some 58, .mv (.t 7), some (57, false)⟩,
  ⟨some 59, .bin .gtr (.t 58) (.v (.int .i64 1)), some (57, false)⟩,
  ⟨some 60, .pick (.t 57) (.v (.bool true)) (.t 59), none⟩,
  ⟨some 61, .mv (.t 60), none⟩,
  ⟨some 62, .mv (.t 7), some (61, false)⟩,
  ⟨some 63, .mv (.t 8), some (61, false)⟩,
  ⟨some 64, .un .neg (.t 63), some (61, false)⟩,
  ⟨some 65, .bin .neq (.t 62) (.t 64), some (61, false)⟩,
  ⟨some 66, .pick (.t 61) (.v (.bool true)) (.t 65), none⟩,
  ⟨some 67, .mv (.t 66), none⟩,
  ⟨some 68, .mv (.t 7), some (67, false)⟩,
  ⟨some 69, .bin .leq (.t 68) (.v (.int .i64 0)), some (67, false)⟩,
  ⟨some 70, .mv (.t 69), some (67, false)⟩,
  ⟨some 71, .mv (.t 9), some (70, true)⟩,
  ⟨some 72, .bin .leq (.t 71) (.v (.int .i64 0)), some (70, true)⟩,
  ⟨some 73, .pick (.t 70) (.t 72) (.v (.bool false)), some (67, false)⟩,
  ⟨some 74, .mv (.t 73), some (67, false)⟩,
  ⟨some 75, .mv (.t 10), some (74, true)⟩,
  ⟨some 76, .bin .gtr (.t 75) (.v (.int .i64 0)), some (74, true)⟩,
  ⟨some 77, .pick (.t 74) (.t 76) (.v (.bool false)), some (67, false)⟩,
  ⟨some 78, .pick (.t 67) (.v (.bool true)) (.t 77), none⟩]
def r10 : List AO := [⟨some 6, .asg (.v (.bool false)), none⟩]
def r11 : List AO := [⟨some 79, .mv (.t 7), none⟩,
  ⟨some 80, .bin .neq (.t 79) (.v (.int .i64 0)), none⟩,
  ⟨some 81, .mv (.t 80), none⟩,
  ⟨some 82, .take 9 true (.t 3), some (81, false)⟩,
  ⟨some 83, .take 9 true (.t 4), some (81, false)⟩,
  ⟨some 84, .call .deep (.v (.clo F.hallmarkkit_SameType [] [])) [.t 82, .t 83], some (81, false)⟩,
  ⟨some 85, .pick (.t 81) (.v (.bool true)) (.t 84), none⟩,
  ⟨some 6, .asg (.t 85), none⟩]
def body : AC := .seq (.reg r0 [3, 4, 5]) (.seq (.seq (.reg r1 [3, 4, 5, 14]) (.cond (.t 14) (.seq (.reg r2 [6]) (.ret)) (.skip))) (.seq (.seq (.reg r3 [3, 4, 5, 42]) (.cond (.t 42) (.seq (.reg r4 [6]) (.ret)) (.skip))) (.seq (.reg r5 [3, 4, 5, 7]) (.seq (.reg r6 [3, 4, 5, 7, 8]) (.seq (.reg r7 [3, 4, 5, 7, 8, 9]) (.seq (.reg r8 [3, 4, 7, 8, 9, 10]) (.seq (.seq (.reg r9 [3, 4, 7, 78]) (.cond (.t 78) (.seq (.reg r10 [6]) (.ret)) (.skip))) (.seq (.reg r11 [6]) (.ret)))))))))
def fn : AFun := ⟨[.val, .val, .val], 86, [.tmp 6], [], body⟩
end hallmarklaw09_ShapeRow
namespace shape_Cmp
def r0 : List AO := [⟨some 2, .box (.t 0), none⟩,
  ⟨some 3, .box (.t 1), none⟩,
  ⟨some 4, .asg (.v (.int .i64 0)), none⟩]
def r1 : List Ph := [.bag false [] [26, 28, 36, 38, 41, 43, 46, 48, 50] [(0, ⟨some 5, .fadr 0 (.t 2), none⟩),
    (1, ⟨some 6, .load 1 false (.t 5), none⟩),
    (2, ⟨some 7, .fadr 0 (.t 3), none⟩),
    (3, ⟨some 8, .load 1 false (.t 7), none⟩),
    (4, ⟨some 9, .call .deep (.v (.clo F.shape_truth [] [])) [.t 6, .t 8], none⟩),
    (5, ⟨some 10, .fadr 1 (.t 2), none⟩),
    (6, ⟨some 11, .load 1 false (.t 10), none⟩),
    (7, ⟨some 12, .fadr 1 (.t 3), none⟩),
    (8, ⟨some 13, .load 1 false (.t 12), none⟩),
    (9, ⟨some 14, .call .deep (.v (.clo F.shape_truth [] [])) [.t 11, .t 13], none⟩),
    (10, ⟨some 15, .fadr 2 (.t 2), none⟩),
    (11, ⟨some 16, .load 1 false (.t 15), none⟩),
    (12, ⟨some 17, .fadr 2 (.t 3), none⟩),
    (13, ⟨some 18, .load 1 false (.t 17), none⟩),
    (14, ⟨some 19, .call .deep (.v (.clo F.shape_truth [] [])) [.t 16, .t 18], none⟩),
    (15, ⟨some 20, .fadr 3 (.t 2), none⟩),
    (16, ⟨some 21, .load 1 false (.t 20), none⟩),
    (17, ⟨some 22, .fadr 3 (.t 3), none⟩),
    (18, ⟨some 23, .load 1 false (.t 22), none⟩),
    (19, ⟨some 24, .call .deep (.v (.clo F.shape_truth [] [])) [.t 21, .t 23], none⟩),
    (20, ⟨some 25, .fadr 4 (.t 2), none⟩),
    (21, ⟨some 26, .load 1 false (.t 25), none⟩),
    (22, ⟨some 27, .fadr 4 (.t 3), none⟩),
    (23, ⟨some 28, .load 1 false (.t 27), none⟩),
    (24, ⟨some 29, .call .deep (.v (.clo F.slices_CompareFunc_LSpan_LSpan_Span_Span [] [])) [.t 26, .t 28, .v (.clo F.shape_span [] [])], none⟩),
    (25, ⟨some 30, .fadr 5 (.t 2), none⟩),
    (26, ⟨some 31, .load 1 false (.t 30), none⟩),
    (27, ⟨some 32, .fadr 5 (.t 3), none⟩),
    (28, ⟨some 33, .load 1 false (.t 32), none⟩),
    (29, ⟨some 34, .call .deep (.v (.clo F.shape_truth [] [])) [.t 31, .t 33], none⟩),
    (30, ⟨some 35, .fadr 6 (.t 2), none⟩),
    (31, ⟨some 36, .load 1 false (.t 35), none⟩),
    (32, ⟨some 37, .fadr 6 (.t 3), none⟩),
    (33, ⟨some 38, .load 1 false (.t 37), none⟩),
    (34, ⟨some 39, .call .deep (.v (.clo F.slices_Compare_Lstring_string [] [])) [.t 36, .t 38], none⟩),
    (35, ⟨some 40, .fadr 7 (.t 2), none⟩),
    (36, ⟨some 41, .load 1 false (.t 40), none⟩),
    (37, ⟨some 42, .fadr 7 (.t 3), none⟩),
    (38, ⟨some 43, .load 1 false (.t 42), none⟩),
    (39, ⟨some 44, .call .deep (.v (.clo F.slices_CompareFunc_LArr_LArr_Arr_Arr [] [])) [.t 41, .t 43, .v (.clo F.shape_arr [] [])], none⟩),
    (40, ⟨some 45, .fadr 8 (.t 2), none⟩),
    (41, ⟨some 46, .load 1 false (.t 45), none⟩),
    (42, ⟨some 47, .fadr 8 (.t 3), none⟩),
    (43, ⟨some 48, .load 1 false (.t 47), none⟩),
    (44, ⟨some 49, .call .deep (.v (.clo F.slices_CompareFunc_LObj_LObj_Obj_Obj [] [])) [.t 46, .t 48, .v (.clo F.shape_obj [] [])], none⟩),
    (45, ⟨some 50, .buildS 9 1 [.av (.int .i64 0)] [(0, 1, .t 9), (1, 1, .t 14), (2, 1, .t 19), (3, 1, .t 24), (4, 1, .t 29), (5, 1, .t 34), (6, 1, .t 39), (7, 1, .t 44), (8, 1, .t 49)], none⟩),
    (46, ⟨some 51, .call .deep (.v (.clo F.cmp_Or_int [] [])) [.t 50], none⟩),
    (47, ⟨some 4, .asg (.t 51), none⟩)]]
def body : AC := .seq (.reg r0 [2, 3]) (.seq (.dreg r1 [4]) (.ret))
def fn : AFun := ⟨[.val, .val], 52, [.tmp 4], [], body⟩
end shape_Cmp
namespace hallmarkkit_SameType
def r0 : List AO := [⟨some 2, .box (.t 0), none⟩,
  ⟨some 3, .box (.t 1), none⟩,
  ⟨some 4, .asg (.v (.bool false)), none⟩]
def r1 : List AO := [⟨some 5, .fadr 0 (.t 2), none⟩,
  ⟨some 6, .load 1 false (.t 5), none⟩,
  ⟨some 7, .fadr 0 (.t 3), none⟩,
  ⟨some 8, .load 1 false (.t 7), none⟩,
  ⟨some 9, .binB true (.t 6) (.t 8), none⟩,
  ⟨some 10, .mv (.t 9), none⟩,
  ⟨some 11, .fadr 1 (.t 2), some (10, false)⟩,
  ⟨some 12, .load 1 false (.t 11), some (10, false)⟩,
  ⟨some 13, .fadr 1 (.t 3), some (10, false)⟩,
  ⟨some 14, .load 1 false (.t 13), some (10, false)⟩,
  ⟨some 15, .binB true (.t 12) (.t 14), some (10, false)⟩,
  ⟨some 16, .pick (.t 10) (.v (.bool true)) (.t 15), none⟩,
  ⟨some 17, .mv (.t 16), none⟩,
  ⟨some 18, .fadr 2 (.t 2), some (17, false)⟩,
  ⟨some 19, .load 1 false (.t 18), some (17, false)⟩,
  ⟨some 20, .fadr 2 (.t 3), some (17, false)⟩,
  ⟨some 21, .load 1 false (.t 20), some (17, false)⟩,
  ⟨some 22, .binB true (.t 19) (.t 21), some (17, false)⟩,
  ⟨some 23, .pick (.t 17) (.v (.bool true)) (.t 22), none⟩,
  ⟨some 24, .mv (.t 23), none⟩,
  ⟨some 25, .fadr 3 (.t 2), some (24, false)⟩,
  ⟨some 26, .load 1 false (.t 25), some (24, false)⟩,
  ⟨some 27, .fadr 3 (.t 3), some (24, false)⟩,
  ⟨some 28, .load 1 false (.t 27), some (24, false)⟩,
  ⟨some 29, .binB true (.t 26) (.t 28), some (24, false)⟩,
  ⟨some 30, .pick (.t 24) (.v (.bool true)) (.t 29), none⟩,
  ⟨some 31, .mv (.t 30), none⟩,
  ⟨some 32, .fadr 5 (.t 2), some (31, false)⟩,
  ⟨some 33, .load 1 false (.t 32), some (31, false)⟩,
  ⟨some 34, .fadr 5 (.t 3), some (31, false)⟩,
  ⟨some 35, .load 1 false (.t 34), some (31, false)⟩,
  ⟨some 36, .binB true (.t 33) (.t 35), some (31, false)⟩,
  ⟨some 37, .pick (.t 31) (.v (.bool true)) (.t 36), none⟩]
def r2 : List AO := [⟨some 4, .asg (.v (.bool false)), none⟩]
def r3 : List AO := [⟨some 38, .fadr 4 (.t 2), none⟩,
  ⟨some 39, .load 1 false (.t 38), none⟩,
  ⟨some 40, .fadr 4 (.t 3), none⟩,
  ⟨some 41, .load 1 false (.t 40), none⟩,
  ⟨some 42, .call .deep (.v (.clo F.hallmarkkit_SameSpans [] [])) [.t 39, .t 41], none⟩,
  ⟨some 43, .un .not (.t 42), none⟩]
def r4 : List AO := [⟨some 4, .asg (.v (.bool false)), none⟩]
def r5 : List AO := [⟨some 44, .fadr 6 (.t 2), none⟩,
  ⟨some 45, .load 1 false (.t 44), none⟩,
  ⟨some 46, .fadr 6 (.t 3), none⟩,
  ⟨some 47, .load 1 false (.t 46), none⟩,
  ⟨some 48, .call .deep (.v (.clo F.hallmarkkit_SameStrings [] [])) [.t 45, .t 47], none⟩,
  ⟨some 49, .un .not (.t 48), none⟩]
def r6 : List AO := [⟨some 4, .asg (.v (.bool false)), none⟩]
def r7 : List AO := [⟨some 50, .fadr 7 (.t 2), none⟩,
  ⟨some 51, .load 1 false (.t 50), none⟩,
  ⟨some 52, .fadr 7 (.t 3), none⟩,
  ⟨some 53, .load 1 false (.t 52), none⟩,
  ⟨some 54, .call .deep (.v (.clo F.hallmarkkit_SameArrs [] [])) [.t 51, .t 53], none⟩,
  ⟨some 55, .un .not (.t 54), none⟩]
def r8 : List AO := [⟨some 4, .asg (.v (.bool false)), none⟩]
def r9 : List AO := [⟨some 56, .fadr 8 (.t 2), none⟩,
  ⟨some 57, .take 1 false (.t 56), none⟩,
  ⟨some 58, .fadr 8 (.t 3), none⟩,
  ⟨some 59, .take 1 false (.t 58), none⟩,
  ⟨some 60, .call .deep (.v (.clo F.hallmarkkit_SameObjs [] [])) [.t 57, .t 59], none⟩,
  ⟨some 61, .un .not (.t 60), none⟩]
def r10 : List AO := [⟨some 4, .asg (.v (.bool false)), none⟩]
def r11 : List AO := [⟨some 4, .asg (.v (.bool true)), none⟩]
def body : AC := .seq (.reg r0 [2, 3]) (.seq (.seq (.reg r1 [2, 3, 37]) (.cond (.t 37) (.seq (.reg r2 [4]) (.ret)) (.skip))) (.seq (.seq (.reg r3 [2, 3, 43]) (.cond (.t 43) (.seq (.reg r4 [4]) (.ret)) (.skip))) (.seq (.seq (.reg r5 [2, 3, 49]) (.cond (.t 49) (.seq (.reg r6 [4]) (.ret)) (.skip))) (.seq (.seq (.reg r7 [2, 3, 55]) (.cond (.t 55) (.seq (.reg r8 [4]) (.ret)) (.skip))) (.seq (.seq (.reg r9 [61]) (.cond (.t 61) (.seq (.reg r10 [4]) (.ret)) (.skip))) (.seq (.reg r11 [4]) (.ret)))))))
def fn : AFun := ⟨[.val, .val], 62, [.tmp 4], [], body⟩
end hallmarkkit_SameType
namespace hallmarkkit_typeParts
def r0 : List AO := [⟨some 2, .box (.t 0), none⟩,
  ⟨some 4, .asg (.v (.int .i64 0)), none⟩]
def r1 : List AO := [⟨some 9, .fadr 6 (.t 2), none⟩,
  ⟨some 10, .load 1 false (.t 9), none⟩,
  ⟨some 11, .len false (.t 10), none⟩,
  ⟨some 12, .bin .add (.v (.int .i64 1)) (.t 11), none⟩,
  ⟨some 13, .fadr 4 (.t 2), none⟩,
  ⟨some 14, .load 1 false (.t 13), none⟩,
  ⟨some 15, .len false (.t 14), none⟩,
  ⟨some 16, .bin .add (.t 12) (.t 15), none⟩,
  ⟨some 5, .asg (.t 16), none⟩]
def r2 : List AO := [⟨some 6, .asg (.v (.int .i64 0)), none⟩]
def r3 : List AO := [⟨some 17, .mv (.t 6), none⟩,
  ⟨some 18, .fadr 7 (.t 2), none⟩,
  ⟨some 19, .load 1 false (.t 18), none⟩,
  ⟨some 20, .len false (.t 19), none⟩,
  ⟨some 21, .bin .lss (.t 17) (.t 20), none⟩,
  ⟨some 22, .mv (.t 21), none⟩,
  ⟨some 23, .mv (.t 5), some (22, true)⟩,
  ⟨some 24, .mv (.t 1), some (22, true)⟩,
  ⟨some 25, .bin .leq (.t 23) (.t 24), some (22, true)⟩,
  ⟨some 26, .pick (.t 22) (.t 25) (.v (.bool false)), none⟩]
def r5 : List AO := [⟨some 29, .mv (.t 5), none⟩,
  ⟨some 30, .fadr 7 (.t 2), none⟩,
  ⟨some 31, .load 1 false (.t 30), none⟩,
  ⟨some 32, .mv (.t 6), none⟩,
  ⟨some 33, .iadr 11 (.t 31) (.t 32), none⟩,
  ⟨some 34, .fadr 0 (.t 33), none⟩,
  ⟨some 35, .load 9 true (.t 34), none⟩,
  ⟨some 36, .mv (.t 1), none⟩,
  ⟨some 37, .mv (.t 5), none⟩,
  ⟨some 38, .bin .sub (.t 36) (.t 37), none⟩,
  ⟨some 39, .call .deep (.v (.clo F.hallmarkkit_typeParts [] [])) [.t 35, .t 38], none⟩,
  ⟨some 40, .bin .add (.t 29) (.t 39), none⟩,
  ⟨some 5, .asg (.t 40), none⟩]
def r4 : List AO := [⟨some 27, .mv (.t 6), none⟩,
  ⟨some 28, .bin .add (.t 27) (.v (.int .i64 1)), none⟩,
  ⟨some 6, .asg (.t 28), none⟩]
def l1 : AC := .seq (.seq (.reg r3 [1, 2, 5, 6, 26]) (.cond (.t 26) (.skip) (.exit 0))) (.seq (.block 1 (.reg r5 [1, 2, 5, 6])) (.reg r4 [1, 2, 5, 6]))
def r6 : List AO := [⟨some 7, .asg (.v (.int .i64 0)), none⟩]
def r7 : List AO := [⟨some 41, .mv (.t 7), none⟩,
  ⟨some 42, .fadr 8 (.t 2), none⟩,
  ⟨some 43, .load 1 false (.t 42), none⟩,
  ⟨some 44, .len false (.t 43), none⟩,
  ⟨some 45, .bin .lss (.t 41) (.t 44), none⟩,
  ⟨some 46, .mv (.t 45), none⟩,
  ⟨some 47, .mv (.t 5), some (46, true)⟩,
  ⟨some 48, .mv (.t 1), some (46, true)⟩,
  ⟨some 49, .bin .leq (.t 47) (.t 48), some (46, true)⟩,
  ⟨some 50, .pick (.t 46) (.t 49) (.v (.bool false)), none⟩]
def r9 : List Ph := [.bag false [] [1, 75] [(0, ⟨some 53, .mv (.t 5), none⟩),
    (1, ⟨some 54, .fadr 8 (.t 2), none⟩),
    (2, ⟨some 55, .load 1 false (.t 54), none⟩),
    (3, ⟨some 56, .mv (.t 7), none⟩),
    (4, ⟨some 57, .iadr 12 (.t 55) (.t 56), none⟩),
    (5, ⟨some 58, .fadr 0 (.t 57), none⟩),
    (6, ⟨some 59, .load 1 false (.t 58), none⟩),
    (7, ⟨some 60, .len false (.t 59), none⟩),
    (8, ⟨some 61, .bin .add (.t 53) (.t 60), none⟩),
    (9, ⟨some 62, .fadr 8 (.t 2), none⟩),
    (10, ⟨some 63, .load 1 false (.t 62), none⟩),
    (11, ⟨some 64, .mv (.t 7), none⟩),
    (12, ⟨some 65, .iadr 12 (.t 63) (.t 64), none⟩),
    (13, ⟨some 66, .fadr 2 (.t 65), none⟩),
    (14, ⟨some 67, .load 1 false (.t 66), none⟩),
    (15, ⟨some 68, .len false (.t 67), none⟩),
    (16, ⟨some 69, .bin .add (.t 61) (.t 68), none⟩),
    (17, ⟨some 70, .fadr 8 (.t 2), none⟩),
    (18, ⟨some 71, .load 1 false (.t 70), none⟩),
    (19, ⟨some 72, .mv (.t 7), none⟩),
    (20, ⟨some 73, .iadr 12 (.t 71) (.t 72), none⟩),
    (21, ⟨some 74, .fadr 3 (.t 73), none⟩),
    (22, ⟨some 75, .load 9 true (.t 74), none⟩),
    (23, ⟨some 76, .mv (.t 1), none⟩),
    (24, ⟨some 77, .mv (.t 5), none⟩),
    (25, ⟨some 78, .bin .sub (.t 76) (.t 77), none⟩),
    (26, ⟨some 79, .call .deep (.v (.clo F.hallmarkkit_typeParts [] [])) [.t 75, .t 78], none⟩),
    (27, ⟨some 80, .bin .add (.t 69) (.t 79), none⟩),
    (28, ⟨some 5, .asg (.t 80), none⟩)]]
def r10 : List AO := [⟨some 8, .asg (.v (.int .i64 0)), none⟩]
def r11 : List AO := [⟨some 81, .mv (.t 8), none⟩,
  ⟨some 82, .fadr 8 (.t 2), none⟩,
  ⟨some 83, .load 1 false (.t 82), none⟩,
  ⟨some 84, .mv (.t 7), none⟩,
  ⟨some 85, .iadr 12 (.t 83) (.t 84), none⟩,
  ⟨some 86, .fadr 1 (.t 85), none⟩,
  ⟨some 87, .load 1 false (.t 86), none⟩,
  ⟨some 88, .len false (.t 87), none⟩,
  ⟨some 89, .bin .lss (.t 81) (.t 88), none⟩,
  ⟨some 90, .mv (.t 89), none⟩,
  ⟨some 91, .mv (.t 5), some (90, true)⟩,
  ⟨some 92, .mv (.t 1), some (90, true)⟩,
  ⟨some 93, .bin .leq (.t 91) (.t 92), some (90, true)⟩,
  ⟨some 94, .pick (.t 90) (.t 93) (.v (.bool false)), none⟩]
def r13 : List AO := [⟨some 97, .mv (.t 5), none⟩,
  ⟨some 98, .fadr 8 (.t 2), none⟩,
  ⟨some 99, .load 1 false (.t 98), none⟩,
  ⟨some 100, .mv (.t 7), none⟩,
  ⟨some 101, .iadr 12 (.t 99) (.t 100), none⟩,
  ⟨some 102, .fadr 1 (.t 101), none⟩,
  ⟨some 103, .load 1 false (.t 102), none⟩,
  ⟨some 104, .mv (.t 8), none⟩,
  ⟨some 105, .iadr 9 (.t 103) (.t 104), none⟩,
  ⟨some 106, .load 9 true (.t 105), none⟩,
  ⟨some 107, .mv (.t 1), none⟩,
  ⟨some 108, .mv (.t 5), none⟩,
  ⟨some 109, .bin .sub (.t 107) (.t 108), none⟩,
  ⟨some 110, .call .deep (.v (.clo F.hallmarkkit_typeParts [] [])) [.t 106, .t 109], none⟩,
  ⟨some 111, .bin .add (.t 97) (.t 110), none⟩,
  ⟨some 5, .asg (.t 111), none⟩]
def r12 : List AO := [⟨some 95, .mv (.t 8), none⟩,
  ⟨some 96, .bin .add (.t 95) (.v (.int .i64 1)), none⟩,
  ⟨some 8, .asg (.t 96), none⟩]
def l3 : AC := .seq (.seq (.reg r11 [1, 2, 5, 7, 8, 94]) (.cond (.t 94) (.skip) (.exit 4))) (.seq (.block 5 (.reg r13 [1, 2, 5, 7, 8])) (.reg r12 [1, 2, 5, 7, 8]))
def r8 : List AO := [⟨some 51, .mv (.t 7), none⟩,
  ⟨some 52, .bin .add (.t 51) (.v (.int .i64 1)), none⟩,
  ⟨some 7, .asg (.t 52), none⟩]
def l2 : AC := .seq (.seq (.reg r7 [1, 2, 5, 7, 50]) (.cond (.t 50) (.skip) (.exit 2))) (.seq (.block 3 (.seq (.dreg r9 [1, 2, 5, 7]) (.seq (.reg r10 [1, 2, 5, 7, 8]) (.block 4 (.loop [1, 2, 5, 7, 8] l3))))) (.reg r8 [1, 2, 5, 7]))
def r14 : List AO := [⟨some 112, .mv (.t 5), none⟩,
  ⟨some 4, .asg (.t 112), none⟩]
def body : AC := .seq (.reg r0 [1, 2]) (.seq (.reg r1 [1, 2, 5]) (.seq (.seq (.reg r2 [1, 2, 5, 6]) (.block 0 (.loop [1, 2, 5, 6] l1))) (.seq (.seq (.reg r6 [1, 2, 5, 7]) (.block 2 (.loop [1, 2, 5, 7] l2))) (.seq (.reg r14 [4]) (.ret)))))
def fn : AFun := ⟨[.val, .val], 113, [.tmp 4], [], body⟩
end hallmarkkit_typeParts
namespace hallmarkref09_Bare
def r0 : List AO := [⟨some 1, .box (.t 0), none⟩,
  ⟨some 2, .asg (.v (.bool false)), none⟩]
def r1 : List AO := [⟨some 4, .fadr 1 (.t 1), none⟩,
  ⟨some 5, .load 1 false (.t 4), none⟩,
  ⟨some 6, .mv (.t 5), none⟩,
  ⟨some 7, .fadr 2 (.t 1), some (6, false)⟩,
  ⟨some 8, .load 1 false (.t 7), some (6, false)⟩,
  ⟨some 9, .pick (.t 6) (.v (.bool true)) (.t 8), none⟩,
  ⟨some 10, .mv (.t 9), none⟩,
  ⟨some 11, .fadr 3 (.t 1), some (10, false)⟩,
  ⟨some 12, .load 1 false (.t 11), some (10, false)⟩,
  ⟨some 13, .pick (.t 10) (.v (.bool true)) (.t 12), none⟩,
  ⟨some 14, .mv (.t 13), none⟩,
  ⟨some 15, .fadr 5 (.t 1), some (14, false)⟩,
  ⟨some 16, .load 1 false (.t 15), some (14, false)⟩,
  ⟨some 17, .pick (.t 14) (.v (.bool true)) (.t 16), none⟩,
  ⟨some 3, .asg (.t 17), none⟩]
def r2 : List AO := [⟨some 18, .mv (.t 3), none⟩,
  ⟨some 19, .un .not (.t 18), none⟩,
  ⟨some 20, .mv (.t 19), none⟩,
  ⟨some 21, .fadr 4 (.t 1), some (20, true)⟩,
  ⟨some 22, .load 1 false (.t 21), some (20, true)⟩,
  ⟨some 23, .len false (.t 22), some (20, true)⟩,
  ⟨some 24, .bin .eql (.t 23) (.v (.int .i64 0)), some (20, true)⟩,
  ⟨some 25, .pick (.t 20) (.t 24) (.v (.bool false)), none⟩,
  ⟨some 26, .mv (.t 25), none⟩,
  ⟨some 27, .fadr 6 (.t 1), some (26, true)⟩,
  ⟨some 28, .load 1 false (.t 27), some (26, true)⟩,
  ⟨some 29, .len false (.t 28), some (26, true)⟩,
  ⟨some 30, .bin .eql (.t 29) (.v (.int .i64 0)), some (26, true)⟩,
  ⟨some 31, .pick (.t 26) (.t 30) (.v (.bool false)), none⟩,
  ⟨some 32, .mv (.t 31), none⟩,
  ⟨some 33, .fadr 7 (.t 1), some (32, true)⟩,
  ⟨some 34, .load 1 false (.t 33), some (32, true)⟩,
  ⟨some 35, .len false (.t 34), some (32, true)⟩,
  ⟨some 36, .bin .eql (.t 35) (.v (.int .i64 0)), some (32, true)⟩,
  ⟨some 37, .pick (.t 32) (.t 36) (.v (.bool false)), none⟩,
  ⟨some 38, .mv (.t 37), none⟩,
  ⟨some 39, .fadr 8 (.t 1), some (38, true)⟩,
  ⟨some 40, .take 1 false (.t 39), some (38, true)⟩,
  ⟨some 41, .len false (.t 40), some (38, true)⟩,
  ⟨some 42, .bin .eql (.t 41) (.v (.int .i64 0)), some (38, true)⟩,
  ⟨some 43, .pick (.t 38) (.t 42) (.v (.bool false)), none⟩,
  ⟨some 2, .asg (.t 43), none⟩]
def body : AC := .seq (.reg r0 [1]) (.seq (.reg r1 [1, 3]) (.seq (.reg r2 [2]) (.ret)))
def fn : AFun := ⟨[.val], 44, [.tmp 2], [], body⟩
end hallmarkref09_Bare
namespace hallmarkref09_Spans
def r0 : List AO := [⟨some 2, .asg (.v (.bool false)), none⟩]
def r1 : List AO := [⟨some 4, .mv (.t 0), none⟩,
  ⟨some 5, .len false (.t 4), none⟩,
  ⟨some 6, .bin .gtr (.t 5) (.v (.int .i64 1)), none⟩]
def r2 : List AO := [⟨some 2, .asg (.v (.bool false)), none⟩]
def r3 : List AO := [⟨some 3, .asg (.v (.int .i64 0)), none⟩]
def r4 : List AO := [⟨some 7, .mv (.t 3), none⟩,
  ⟨some 8, .mv (.t 0), none⟩,
  ⟨some 9, .len false (.t 8), none⟩,
  ⟨some 10, .bin .lss (.t 7) (.t 9), none⟩]
def r6 : List AO := [⟨some 13, .mv (.t 0), none⟩,
  ⟨some 14, .mv (.t 3), none⟩,
  ⟨some 15, .iadr 2 (.t 13) (.t 14), none⟩,
  ⟨some 16, .fadr 0 (.t 15), none⟩,
  ⟨some 17, .load 1 false (.t 16), none⟩,
  ⟨some 18, .call .deep (.v (.clo F.hallmarkref09_bound [] [])) [.t 17], none⟩,
  ⟨some 19, .un .not (.t 18), none⟩,
  ⟨some 20, .mv (.t 19), none⟩,
  ⟨some 21, .mv (.t 0), some (20, false)⟩,
  ⟨some 22, .mv (.t 3), some (20, false)⟩,
  ⟨some 23, .iadr 2 (.t 21) (.t 22), some (20, false)⟩,
  ⟨some 24, .fadr 1 (.t 23), some (20, false)⟩,
  ⟨some 25, .load 1 false (.t 24), some (20, false)⟩,
  ⟨some 26, .call .deep (.v (.clo F.hallmarkref09_bound [] [])) [.t 25], some (20, false)⟩,
  ⟨some 27, .un .not (.t 26), some (20, false)⟩,
  ⟨some 28, .pick (.t 20) (.v (.bool true)) (.t 27), none⟩]
def r7 : List AO := [⟨some 2, .asg (.v (.bool false)), none⟩]
def r8 : List Ph := [.bag false [] [] [(0, ⟨some 29, .mv (.t 0), none⟩),
    (1, ⟨some 30, .mv (.t 3), none⟩),
    (2, ⟨some 31, .iadr 2 (.t 29) (.t 30), none⟩),
    (3, ⟨some 32, .fadr 0 (.t 31), none⟩),
    (4, ⟨some 33, .load 1 false (.t 32), none⟩),
    (5, ⟨some 34, .bin .neq (.t 33) (.v (.str [])), none⟩),
    (6, ⟨some 35, .mv (.t 34), none⟩),
    (7, ⟨some 36, .mv (.t 0), some (35, true)⟩),
    (8, ⟨some 37, .mv (.t 3), some (35, true)⟩),
    (9, ⟨some 38, .iadr 2 (.t 36) (.t 37), some (35, true)⟩),
    (10, ⟨some 39, .fadr 1 (.t 38), some (35, true)⟩),
    (11, ⟨some 40, .load 1 false (.t 39), some (35, true)⟩),
    (12, ⟨some 41, .bin .neq (.t 40) (.v (.str [])), some (35, true)⟩),
    (13, ⟨some 42, .pick (.t 35) (.t 41) (.v (.bool false)), none⟩),
    (14, ⟨some 43, .mv (.t 42), none⟩),
    (15, ⟨some 44, .mv (.t 0), some (43, true)⟩),
    (16, ⟨some 45, .mv (.t 3), some (43, true)⟩),
    (17, ⟨some 46, .iadr 2 (.t 44) (.t 45), some (43, true)⟩),
    (18, ⟨some 47, .fadr 0 (.t 46), some (43, true)⟩),
    (19, ⟨some 48, .load 1 false (.t 47), some (43, true)⟩),
    (20, ⟨some 49, .mv (.t 0), some (43, true)⟩),
    (21, ⟨some 50, .mv (.t 3), some (43, true)⟩),
    (22, ⟨some 51, .iadr 2 (.t 49) (.t 50), some (43, true)⟩),
    (23, ⟨some 52, .fadr 1 (.t 51), some (43, true)⟩),
    (24, ⟨some 53, .load 1 false (.t 52), some (43, true)⟩),
    (25, ⟨some 54, .call .deep (.v (.clo F.hallmarkref03_Numbers [] [])) [.t 48, .t 53], some (43, true)⟩),
    (26, ⟨some 55, .bin .gtr (.t 54) (.v (.int .i64 0)), some (43, true)⟩),
    (27, ⟨some 56, .pick (.t 43) (.t 55) (.v (.bool false)), none⟩)]]
def r9 : List AO := [⟨some 2, .asg (.v (.bool false)), none⟩]
def r5 : List AO := [⟨some 11, .mv (.t 3), none⟩,
  ⟨some 12, .bin .add (.t 11) (.v (.int .i64 1)), none⟩,
  ⟨some 3, .asg (.t 12), none⟩]
def l1 : AC := .seq (.seq (.reg r4 [0, 3, 10]) (.cond (.t 10) (.skip) (.exit 0))) (.seq (.block 1 (.seq (.seq (.reg r6 [0, 3, 28]) (.cond (.t 28) (.seq (.reg r7 [2]) (.ret)) (.skip))) (.seq (.dreg r8 [0, 3, 56]) (.cond (.t 56) (.seq (.reg r9 [2]) (.ret)) (.skip))))) (.reg r5 [0, 3]))
def r10 : List AO := [⟨some 2, .asg (.v (.bool true)), none⟩]
def body : AC := .seq (.reg r0 [0]) (.seq (.seq (.reg r1 [0, 6]) (.cond (.t 6) (.seq (.reg r2 [2]) (.ret)) (.skip))) (.seq (.seq (.reg r3 [0, 3]) (.block 0 (.loop [0, 3] l1))) (.seq (.reg r10 [2]) (.ret))))
def fn : AFun := ⟨[.val], 57, [.tmp 2], [], body⟩
end hallmarkref09_Spans
namespace hallmarkref09_arrays
def r0 : List AO := [⟨some 2, .asg (.v (.bool false)), none⟩]
def r1 : List AO := [⟨some 4, .mv (.t 0), none⟩,
  ⟨some 5, .len false (.t 4), none⟩,
  ⟨some 6, .bin .gtr (.t 5) (.v (.int .i64 1)), none⟩]
def r2 : List AO := [⟨some 2, .asg (.v (.bool false)), none⟩]
def r3 : List AO := [⟨some 3, .asg (.v (.int .i64 0)), none⟩]
def r4 : List AO := [⟨some 7, .mv (.t 3), none⟩,
  ⟨some 8, .mv (.t 0), none⟩,
  ⟨some 9, .len false (.t 8), none⟩,
  ⟨some 10, .bin .lss (.t 7) (.t 9), none⟩]
def r6 : List Ph := [.bag false [] [] [(0, ⟨some 13, .mv (.t 0), none⟩),
    (1, ⟨some 14, .mv (.t 3), none⟩),
    (2, ⟨some 15, .iadr 11 (.t 13) (.t 14), none⟩),
    (3, ⟨some 16, .fadr 9 (.t 15), none⟩),
    (4, ⟨some 17, .load 1 false (.t 16), none⟩),
    (5, ⟨some 18, .bin .lss (.t 17) (.v (.int .i64 0)), none⟩),
    (6, ⟨some 19, .mv (.t 18), none⟩),
    (7, ⟨some 20, .mv (.t 0), some (19, false)⟩),
    (8, ⟨some 21, .mv (.t 3), some (19, false)⟩),
    (9, ⟨some 22, .iadr 11 (.t 20) (.t 21), some (19, false)⟩),
    (10, ⟨some 23, .fadr 10 (.t 22), some (19, false)⟩),
    (11, ⟨some 24, .load 1 false (.t 23), some (19, false)⟩),
    (12, ⟨some 25, .bin .lss (.t 24) (.v (.int .i64 (-1))), some (19, false)⟩),
    (13, ⟨some 26, .pick (.t 19) (.v (.bool true)) (.t 25), none⟩),
    (14, ⟨some 27, .mv (.t 26), none⟩),
    (15, ⟨some 28, .mv (.t 0), some (27, false)⟩),
    (16, ⟨some 29, .mv (.t 3), some (27, false)⟩),
    (17, ⟨some 30, .iadr 11 (.t 28) (.t 29), some (27, false)⟩),
    (18, ⟨some 31, .fadr 10 (.t 30), some (27, false)⟩),
    (19, ⟨some 32, .load 1 false (.t 31), some (27, false)⟩),
    (20, ⟨some 33, .bin .geq (.t 32) (.v (.int .i64 0)), some (27, false)⟩),
    (21, ⟨some 34, .mv (.t 33), some (27, false)⟩),
    (22, ⟨some 35, .mv (.t 0), some (34, true)⟩),
    (23, ⟨some 36, .mv (.t 3), some (34, true)⟩),
    (24, ⟨some 37, .iadr 11 (.t 35) (.t 36), some (34, true)⟩),
    (25, ⟨some 38, .fadr 10 (.t 37), some (34, true)⟩),
    (26, ⟨some 39, .load 1 false (.t 38), some (34, true)⟩),
    (27, ⟨some 40, .mv (.t 0), some (34, true)⟩),
    (28, ⟨some 41, .mv (.t 3), some (34, true)⟩),
    (29, ⟨some 42, .iadr 11 (.t 40) (.t 41), some (34, true)⟩),
    (30, ⟨some 43, .fadr 9 (.t 42), some (34, true)⟩),
    (31, ⟨some 44, .load 1 false (.t 43), some (34, true)⟩),
    (32, ⟨some 45, .bin .lss (.t 39) (.t 44), some (34, true)⟩),
    (33, ⟨some 46, .pick (.t 34) (.t 45) (.v (.bool false)), some (27, false)⟩),
    (34, ⟨some 47, .pick (.t 27) (.v (.bool true)) (.t 46), none⟩)]]
def r7 : List AO := [⟨some 2, .asg (.v (.bool false)), none⟩]
def r8 : List Ph := [.bag false [] [52, 60] [(0, ⟨some 48, .mv (.t 0), none⟩),
    (1, ⟨some 49, .mv (.t 3), none⟩),
    (2, ⟨some 50, .iadr 11 (.t 48) (.t 49), none⟩),
    (3, ⟨some 51, .fadr 0 (.t 50), none⟩),
    (4, ⟨some 52, .load 9 true (.t 51), none⟩),
    (5, ⟨some 53, .call .deep (.v (.clo F.hallmarkref09_Formed [] [])) [.t 52], none⟩),
    (6, ⟨some 54, .un .not (.t 53), none⟩),
    (7, ⟨some 55, .mv (.t 54), none⟩),
    (8, ⟨some 56, .mv (.t 0), some (55, false)⟩),
    (9, ⟨some 57, .mv (.t 3), some (55, false)⟩),
    (10, ⟨some 58, .iadr 11 (.t 56) (.t 57), some (55, false)⟩),
    (11, ⟨some 59, .fadr 0 (.t 58), some (55, false)⟩),
    (12, ⟨some 60, .load 9 true (.t 59), some (55, false)⟩),
    (13, ⟨some 61, .call .deep (.v (.clo F.hallmarkref09_Never [] [])) [.t 60], some (55, false)⟩),
    (14, ⟨some 62, .mv (.t 0), some (55, false)⟩),
    (15, ⟨some 63, .mv (.t 3), some (55, false)⟩),
    (16, ⟨some 64, .iadr 11 (.t 62) (.t 63), some (55, false)⟩),
    (17, ⟨some 65, .fadr 10 (.t 64), some (55, false)⟩),
    (18, ⟨some 66, .load 1 false (.t 65), some (55, false)⟩),
    (19, ⟨some 67, .bin .eql (.t 66) (.v (.int .i64 0)), some (55, false)⟩),
    (20, ⟨some 68, .binB true (.t 61) (.t 67), some (55, false)⟩),
    (21, ⟨some 69, .pick (.t 55) (.v (.bool true)) (.t 68), none⟩)]]
def r9 : List AO := [⟨some 2, .asg (.v (.bool false)), none⟩]
def r5 : List AO := [⟨some 11, .mv (.t 3), none⟩,
  ⟨some 12, .bin .add (.t 11) (.v (.int .i64 1)), none⟩,
  ⟨some 3, .asg (.t 12), none⟩]
def l1 : AC := .seq (.seq (.reg r4 [0, 3, 10]) (.cond (.t 10) (.skip) (.exit 0))) (.seq (.block 1 (.seq (.seq (.dreg r6 [0, 3, 47]) (.cond (.t 47) (.seq (.reg r7 [2]) (.ret)) (.skip))) (.seq (.dreg r8 [0, 3, 69]) (.cond (.t 69) (.seq (.reg r9 [2]) (.ret)) (.skip))))) (.reg r5 [0, 3]))
def r10 : List AO := [⟨some 2, .asg (.v (.bool true)), none⟩]
def body : AC := .seq (.reg r0 [0]) (.seq (.seq (.reg r1 [0, 6]) (.cond (.t 6) (.seq (.reg r2 [2]) (.ret)) (.skip))) (.seq (.seq (.reg r3 [0, 3]) (.block 0 (.loop [0, 3] l1))) (.seq (.reg r10 [2]) (.ret))))
def fn : AFun := ⟨[.val], 70, [.tmp 2], [], body⟩
end hallmarkref09_arrays
namespace hallmarkref09_objects
def r0 : List AO := [⟨some 2, .asg (.v (.bool false)), none⟩]
def r1 : List AO := [⟨some 3, .asg (.v (.int .i64 0)), none⟩]
def r2 : List AO := [⟨some 4, .mv (.t 3), none⟩,
  ⟨some 5, .mv (.t 0), none⟩,
  ⟨some 6, .len false (.t 5), none⟩,
  ⟨some 7, .bin .lss (.t 4) (.t 6), none⟩]
def r4 : List AO := [⟨some 10, .mv (.t 0), none⟩,
  ⟨some 11, .mv (.t 3), none⟩,
  ⟨some 12, .iadr 12 (.t 10) (.t 11), none⟩,
  ⟨some 13, .load 12 true (.t 12), none⟩,
  ⟨some 14, .call .deep (.v (.clo F.hallmarkref09_object [] [])) [.t 13], none⟩,
  ⟨some 15, .un .not (.t 14), none⟩]
def r5 : List AO := [⟨some 2, .asg (.v (.bool false)), none⟩]
def r3 : List AO := [⟨some 8, .mv (.t 3), none⟩,
  ⟨some 9, .bin .add (.t 8) (.v (.int .i64 1)), none⟩,
  ⟨some 3, .asg (.t 9), none⟩]
def l1 : AC := .seq (.seq (.reg r2 [0, 3, 7]) (.cond (.t 7) (.skip) (.exit 0))) (.seq (.block 1 (.seq (.reg r4 [0, 3, 15]) (.cond (.t 15) (.seq (.reg r5 [2]) (.ret)) (.skip)))) (.reg r3 [0, 3]))
def r6 : List AO := [⟨some 2, .asg (.v (.bool true)), none⟩]
def body : AC := .seq (.reg r0 [0]) (.seq (.seq (.reg r1 [0, 3]) (.block 0 (.loop [0, 3] l1))) (.seq (.reg r6 [2]) (.ret)))
def fn : AFun := ⟨[.val], 16, [.tmp 2], [], body⟩
end hallmarkref09_objects
namespace shape_truth
def r0 : List AO := [⟨some 4, .asg (.v (.int .i64 0)), none⟩]
def r1 : List AO := [⟨some 6, .mv (.t 0), none⟩,
  ⟨some 7, .mv (.t 1), none⟩,
  ⟨some 8, .binB false (.t 6) (.t 7), none⟩,
  ⟨some 5, .asg (.t 8), none⟩]
def r2 : List AO := [⟨some 4, .asg (.v (.int .i64 0)), none⟩]
def r3 : List AO := [⟨some 10, .mv (.t 1), none⟩,
  ⟨some 9, .asg (.t 10), none⟩]
def r4 : List AO := [⟨some 4, .asg (.v (.int .i64 (-1))), none⟩]
def r5 : List AO := [⟨some 4, .asg (.v (.int .i64 1)), none⟩]
def body : AC := .seq (.reg r0 [0, 1]) (.seq (.block 0 (.seq (.reg r1 [1, 5]) (.cond (.t 5) (.seq (.reg r2 [4]) (.ret)) (.seq (.reg r3 [9]) (.cond (.t 9) (.seq (.reg r4 [4]) (.ret)) (.skip)))))) (.seq (.reg r5 [4]) (.ret)))
def fn : AFun := ⟨[.val, .val], 11, [.tmp 4], [], body⟩
end shape_truth
namespace slices_CompareFunc_LSpan_LSpan_Span_Span
def r0 : List AO := [⟨some 6, .asg (.v (.int .i64 0)), none⟩]
def r1 : List AO := [⟨some 11, .mv (.t 0), none⟩,
  ⟨some 12, .len false (.t 11), none⟩,
  ⟨some 13, .mv (.v (.int .i64 0)), none⟩]
def r2 : List AO := [⟨some 14, .bin .lss (.t 13) (.t 12), none⟩]
def r3 : List AO := [⟨some 15, .mv (.t 13), none⟩,
  ⟨some 16, .iadr 2 (.t 11) (.t 13), none⟩,
  ⟨some 17, .load 2 true (.t 16), none⟩,
  ⟨some 8, .alloc [.av (.str []), .av (.str [])], none⟩,
  ⟨some 7, .asg (.t 15), none⟩,
  ⟨none, .store 2 (.t 8) (.t 17), none⟩]
def r4 : List AO := [⟨some 18, .mv (.t 7), none⟩,
  ⟨some 19, .mv (.t 1), none⟩,
  ⟨some 20, .len false (.t 19), none⟩,
  ⟨some 21, .bin .geq (.t 18) (.t 20), none⟩]
def r5 : List AO := [⟨some 6, .asg (.v (.int .i64 1)), none⟩]
def r6 : List AO := [⟨some 22, .mv (.t 1), none⟩,
  ⟨some 23, .mv (.t 7), none⟩,
  ⟨some 24, .iadr 2 (.t 22) (.t 23), none⟩,
  ⟨some 25, .load 2 true (.t 24), none⟩,
  ⟨some 9, .alloc [.av (.str []), .av (.str [])], none⟩,
  ⟨none, .store 2 (.t 9) (.t 25), none⟩]
def r7 : List AO := [⟨some 26, .mv (.t 2), none⟩,
  ⟨some 27, .take 2 true (.t 8), none⟩,
  ⟨some 28, .take 2 true (.t 9), none⟩,
  ⟨some 29, .call .deep (.t 26) [.t 27, .t 28], none⟩,
  ⟨some 10, .asg (.t 29), none⟩]
def r8 : List AO := [⟨some 30, .mv (.t 10), none⟩,
  ⟨some 31, .bin .neq (.t 30) (.v (.int .i64 0)), none⟩]
def r9 : List AO := [⟨some 32, .mv (.t 10), none⟩,
  ⟨some 6, .asg (.t 32), none⟩]
def r10 : List AO := [⟨some 33, .bin .add (.t 13) (.v (.int .i64 1)), none⟩,
  ⟨some 13, .mv (.t 33), none⟩]
def l1 : AC := .seq (.reg r2 [0, 1, 2, 11, 12, 13, 14]) (.seq (.cond (.t 14) (.skip) (.exit 0)) (.seq (.block 1 (.seq (.reg r3 [0, 1, 2, 7, 8, 11, 12, 13]) (.seq (.seq (.reg r4 [0, 1, 2, 7, 8, 11, 12, 13, 21]) (.cond (.t 21) (.seq (.reg r5 [6]) (.ret)) (.skip))) (.seq (.reg r6 [0, 1, 2, 8, 9, 11, 12, 13]) (.seq (.reg r7 [0, 1, 2, 10, 11, 12, 13]) (.seq (.reg r8 [0, 1, 2, 10, 11, 12, 13, 31]) (.cond (.t 31) (.seq (.reg r9 [6]) (.ret)) (.skip)))))))) (.reg r10 [0, 1, 2, 11, 12, 13])))
def r11 : List AO := [⟨some 34, .mv (.t 0), none⟩,
  ⟨some 35, .len false (.t 34), none⟩,
  ⟨some 36, .mv (.t 1), none⟩,
  ⟨some 37, .len false (.t 36), none⟩,
  ⟨some 38, .bin .lss (.t 35) (.t 37), none⟩]
def r12 : List AO := [⟨some 6, .asg (.v (.int .i64 (-1))), none⟩]
def r13 : List AO := [⟨some 6, .asg (.v (.int .i64 0)), none⟩]
def body : AC := .seq (.reg r0 [0, 1, 2]) (.seq (.seq (.reg r1 [0, 1, 2, 11, 12, 13]) (.block 0 (.loop [0, 1, 2, 11, 12, 13] l1))) (.seq (.seq (.reg r11 [38]) (.cond (.t 38) (.seq (.reg r12 [6]) (.ret)) (.skip))) (.seq (.reg r13 [6]) (.ret))))
def fn : AFun := ⟨[.val, .val, .val], 39, [.tmp 6], [], body⟩
end slices_CompareFunc_LSpan_LSpan_Span_Span
namespace shape_span
def r0 : List AO := [⟨some 2, .box (.t 0), none⟩,
  ⟨some 3, .box (.t 1), none⟩,
  ⟨some 4, .asg (.v (.int .i64 0)), none⟩]
def r1 : List Ph := [.bag false [] [15] [(0, ⟨some 5, .fadr 0 (.t 2), none⟩),
    (1, ⟨some 6, .load 1 false (.t 5), none⟩),
    (2, ⟨some 7, .fadr 0 (.t 3), none⟩),
    (3, ⟨some 8, .load 1 false (.t 7), none⟩),
    (4, ⟨some 9, .call .deep (.v (.clo F.shape_bound [] [])) [.t 6, .t 8, .v (.int .i64 (-1))], none⟩),
    (5, ⟨some 10, .fadr 1 (.t 2), none⟩),
    (6, ⟨some 11, .load 1 false (.t 10), none⟩),
    (7, ⟨some 12, .fadr 1 (.t 3), none⟩),
    (8, ⟨some 13, .load 1 false (.t 12), none⟩),
    (9, ⟨some 14, .call .deep (.v (.clo F.shape_bound [] [])) [.t 11, .t 13, .v (.int .i64 1)], none⟩),
    (10, ⟨some 15, .buildS 2 1 [.av (.int .i64 0)] [(0, 1, .t 9), (1, 1, .t 14)], none⟩),
    (11, ⟨some 16, .call .deep (.v (.clo F.cmp_Or_int [] [])) [.t 15], none⟩),
    (12, ⟨some 4, .asg (.t 16), none⟩)]]
def body : AC := .seq (.reg r0 [2, 3]) (.seq (.dreg r1 [4]) (.ret))
def fn : AFun := ⟨[.val, .val], 17, [.tmp 4], [], body⟩
end shape_span
namespace slices_CompareFunc_LArr_LArr_Arr_Arr
def r0 : List AO := [⟨some 6, .asg (.v (.int .i64 0)), none⟩]
def r1 : List AO := [⟨some 11, .mv (.t 0), none⟩,
  ⟨some 12, .len false (.t 11), none⟩,
  ⟨some 13, .mv (.v (.int .i64 0)), none⟩]
def r2 : List AO := [⟨some 14, .bin .lss (.t 13) (.t 12), none⟩]
def r3 : List AO := [⟨some 15, .mv (.t 13), none⟩,
  ⟨some 16, .iadr 11 (.t 11) (.t 13), none⟩,
  ⟨some 17, .load 11 true (.t 16), none⟩,
  ⟨some 8, .alloc [.av (.bool false), .av (.bool false), .av (.bool false), .av (.bool false), .own 2 [], .av (.bool false), .own 1 [], .own 11 [], .own 12 [], .av (.int .i64 0), .av (.int .i64 0)], none⟩,
  ⟨some 7, .asg (.t 15), none⟩,
  ⟨none, .store 11 (.t 8) (.t 17), none⟩]
def r4 : List AO := [⟨some 18, .mv (.t 7), none⟩,
  ⟨some 19, .mv (.t 1), none⟩,
  ⟨some 20, .len false (.t 19), none⟩,
  ⟨some 21, .bin .geq (.t 18) (.t 20), none⟩]
def r5 : List AO := [⟨some 6, .asg (.v (.int .i64 1)), none⟩]
def r6 : List AO := [⟨some 22, .mv (.t 1), none⟩,
  ⟨some 23, .mv (.t 7), none⟩,
  ⟨some 24, .iadr 11 (.t 22) (.t 23), none⟩,
  ⟨some 25, .load 11 true (.t 24), none⟩,
  ⟨some 9, .alloc [.av (.bool false), .av (.bool false), .av (.bool false), .av (.bool false), .own 2 [], .av (.bool false), .own 1 [], .own 11 [], .own 12 [], .av (.int .i64 0), .av (.int .i64 0)], none⟩,
  ⟨none, .store 11 (.t 9) (.t 25), none⟩]
def r7 : List AO := [⟨some 26, .mv (.t 2), none⟩,
  ⟨some 27, .take 11 true (.t 8), none⟩,
  ⟨some 28, .take 11 true (.t 9), none⟩,
  ⟨some 29, .call .deep (.t 26) [.t 27, .t 28], none⟩,
  ⟨some 10, .asg (.t 29), none⟩]
def r8 : List AO := [⟨some 30, .mv (.t 10), none⟩,
  ⟨some 31, .bin .neq (.t 30) (.v (.int .i64 0)), none⟩]
def r9 : List AO := [⟨some 32, .mv (.t 10), none⟩,
  ⟨some 6, .asg (.t 32), none⟩]
def r10 : List AO := [⟨some 33, .bin .add (.t 13) (.v (.int .i64 1)), none⟩,
  ⟨some 13, .mv (.t 33), none⟩]
def l1 : AC := .seq (.reg r2 [0, 1, 2, 11, 12, 13, 14]) (.seq (.cond (.t 14) (.skip) (.exit 0)) (.seq (.block 1 (.seq (.reg r3 [0, 1, 2, 7, 8, 11, 12, 13]) (.seq (.seq (.reg r4 [0, 1, 2, 7, 8, 11, 12, 13, 21]) (.cond (.t 21) (.seq (.reg r5 [6]) (.ret)) (.skip))) (.seq (.reg r6 [0, 1, 2, 8, 9, 11, 12, 13]) (.seq (.reg r7 [0, 1, 2, 10, 11, 12, 13]) (.seq (.reg r8 [0, 1, 2, 10, 11, 12, 13, 31]) (.cond (.t 31) (.seq (.reg r9 [6]) (.ret)) (.skip)))))))) (.reg r10 [0, 1, 2, 11, 12, 13])))
def r11 : List AO := [⟨some 34, .mv (.t 0), none⟩,
  ⟨some 35, .len false (.t 34), none⟩,
  ⟨some 36, .mv (.t 1), none⟩,
  ⟨some 37, .len false (.t 36), none⟩,
  ⟨some 38, .bin .lss (.t 35) (.t 37), none⟩]
def r12 : List AO := [⟨some 6, .asg (.v (.int .i64 (-1))), none⟩]
def r13 : List AO := [⟨some 6, .asg (.v (.int .i64 0)), none⟩]
def body : AC := .seq (.reg r0 [0, 1, 2]) (.seq (.seq (.reg r1 [0, 1, 2, 11, 12, 13]) (.block 0 (.loop [0, 1, 2, 11, 12, 13] l1))) (.seq (.seq (.reg r11 [38]) (.cond (.t 38) (.seq (.reg r12 [6]) (.ret)) (.skip))) (.seq (.reg r13 [6]) (.ret))))
def fn : AFun := ⟨[.val, .val, .val], 39, [.tmp 6], [], body⟩
end slices_CompareFunc_LArr_LArr_Arr_Arr
namespace shape_arr
def r0 : List AO := [⟨some 2, .box (.t 0), none⟩,
  ⟨some 3, .box (.t 1), none⟩,
  ⟨some 4, .asg (.v (.int .i64 0)), none⟩]
def r1 : List Ph := [.bag false [] [16, 18, 20] [(0, ⟨some 5, .fadr 9 (.t 2), none⟩),
    (1, ⟨some 6, .load 1 false (.t 5), none⟩),
    (2, ⟨some 7, .fadr 9 (.t 3), none⟩),
    (3, ⟨some 8, .load 1 false (.t 7), none⟩),
    (4, ⟨some 9, .call .deep (.v (.clo F.cmp_Compare_int [] [])) [.t 6, .t 8], none⟩),
    (5, ⟨some 10, .fadr 10 (.t 2), none⟩),
    (6, ⟨some 11, .load 1 false (.t 10), none⟩),
    (7, ⟨some 12, .fadr 10 (.t 3), none⟩),
    (8, ⟨some 13, .load 1 false (.t 12), none⟩),
    (9, ⟨some 14, .call .deep (.v (.clo F.shape_most [] [])) [.t 11, .t 13], none⟩),
    (10, ⟨some 15, .fadr 0 (.t 2), none⟩),
    (11, ⟨some 16, .load 9 true (.t 15), none⟩),
    (12, ⟨some 17, .fadr 0 (.t 3), none⟩),
    (13, ⟨some 18, .load 9 true (.t 17), none⟩),
    (14, ⟨some 19, .call .deep (.v (.clo F.shape_Cmp [] [])) [.t 16, .t 18], none⟩),
    (15, ⟨some 20, .buildS 3 1 [.av (.int .i64 0)] [(0, 1, .t 9), (1, 1, .t 14), (2, 1, .t 19)], none⟩),
    (16, ⟨some 21, .call .deep (.v (.clo F.cmp_Or_int [] [])) [.t 20], none⟩),
    (17, ⟨some 4, .asg (.t 21), none⟩)]]
def body : AC := .seq (.reg r0 [2, 3]) (.seq (.dreg r1 [4]) (.ret))
def fn : AFun := ⟨[.val, .val], 22, [.tmp 4], [], body⟩
end shape_arr
namespace slices_CompareFunc_LObj_LObj_Obj_Obj
def r0 : List AO := [⟨some 6, .asg (.v (.int .i64 0)), none⟩]
def r1 : List AO := [⟨some 11, .mv (.t 0), none⟩,
  ⟨some 12, .len false (.t 11), none⟩,
  ⟨some 13, .mv (.v (.int .i64 0)), none⟩]
def r2 : List AO := [⟨some 14, .bin .lss (.t 13) (.t 12), none⟩]
def r3 : List AO := [⟨some 15, .mv (.t 13), none⟩,
  ⟨some 16, .iadr 12 (.t 11) (.t 13), none⟩,
  ⟨some 17, .load 12 true (.t 16), none⟩,
  ⟨some 8, .alloc [.own 1 [], .own 9 [], .own 1 [], .av (.bool false), .av (.bool false), .av (.bool false), .av (.bool false), .own 2 [], .av (.bool false), .own 1 [], .own 11 [], .own 12 []], none⟩,
  ⟨some 7, .asg (.t 15), none⟩,
  ⟨none, .store 12 (.t 8) (.t 17), none⟩]
def r4 : List AO := [⟨some 18, .mv (.t 7), none⟩,
  ⟨some 19, .mv (.t 1), none⟩,
  ⟨some 20, .len false (.t 19), none⟩,
  ⟨some 21, .bin .geq (.t 18) (.t 20), none⟩]
def r5 : List AO := [⟨some 6, .asg (.v (.int .i64 1)), none⟩]
def r6 : List AO := [⟨some 22, .mv (.t 1), none⟩,
  ⟨some 23, .mv (.t 7), none⟩,
  ⟨some 24, .iadr 12 (.t 22) (.t 23), none⟩,
  ⟨some 25, .load 12 true (.t 24), none⟩,
  ⟨some 9, .alloc [.own 1 [], .own 9 [], .own 1 [], .av (.bool false), .av (.bool false), .av (.bool false), .av (.bool false), .own 2 [], .av (.bool false), .own 1 [], .own 11 [], .own 12 []], none⟩,
  ⟨none, .store 12 (.t 9) (.t 25), none⟩]
def r7 : List AO := [⟨some 26, .mv (.t 2), none⟩,
  ⟨some 27, .take 12 true (.t 8), none⟩,
  ⟨some 28, .take 12 true (.t 9), none⟩,
  ⟨some 29, .call .deep (.t 26) [.t 27, .t 28], none⟩,
  ⟨some 10, .asg (.t 29), none⟩]
def r8 : List AO := [⟨some 30, .mv (.t 10), none⟩,
  ⟨some 31, .bin .neq (.t 30) (.v (.int .i64 0)), none⟩]
def r9 : List AO := [⟨some 32, .mv (.t 10), none⟩,
  ⟨some 6, .asg (.t 32), none⟩]
def r10 : List AO := [⟨some 33, .bin .add (.t 13) (.v (.int .i64 1)), none⟩,
  ⟨some 13, .mv (.t 33), none⟩]
def l1 : AC := .seq (.reg r2 [0, 1, 2, 11, 12, 13, 14]) (.seq (.cond (.t 14) (.skip) (.exit 0)) (.seq (.block 1 (.seq (.reg r3 [0, 1, 2, 7, 8, 11, 12, 13]) (.seq (.seq (.reg r4 [0, 1, 2, 7, 8, 11, 12, 13, 21]) (.cond (.t 21) (.seq (.reg r5 [6]) (.ret)) (.skip))) (.seq (.reg r6 [0, 1, 2, 8, 9, 11, 12, 13]) (.seq (.reg r7 [0, 1, 2, 10, 11, 12, 13]) (.seq (.reg r8 [0, 1, 2, 10, 11, 12, 13, 31]) (.cond (.t 31) (.seq (.reg r9 [6]) (.ret)) (.skip)))))))) (.reg r10 [0, 1, 2, 11, 12, 13])))
def r11 : List AO := [⟨some 34, .mv (.t 0), none⟩,
  ⟨some 35, .len false (.t 34), none⟩,
  ⟨some 36, .mv (.t 1), none⟩,
  ⟨some 37, .len false (.t 36), none⟩,
  ⟨some 38, .bin .lss (.t 35) (.t 37), none⟩]
def r12 : List AO := [⟨some 6, .asg (.v (.int .i64 (-1))), none⟩]
def r13 : List AO := [⟨some 6, .asg (.v (.int .i64 0)), none⟩]
def body : AC := .seq (.reg r0 [0, 1, 2]) (.seq (.seq (.reg r1 [0, 1, 2, 11, 12, 13]) (.block 0 (.loop [0, 1, 2, 11, 12, 13] l1))) (.seq (.seq (.reg r11 [38]) (.cond (.t 38) (.seq (.reg r12 [6]) (.ret)) (.skip))) (.seq (.reg r13 [6]) (.ret))))
def fn : AFun := ⟨[.val, .val, .val], 39, [.tmp 6], [], body⟩
end slices_CompareFunc_LObj_LObj_Obj_Obj
namespace shape_obj
def r0 : List AO := [⟨some 2, .box (.t 0), none⟩,
  ⟨some 3, .box (.t 1), none⟩,
  ⟨some 4, .asg (.v (.int .i64 0)), none⟩]
def r1 : List Ph := [.bag false [] [6, 8, 11, 13, 16, 18, 21, 23, 25] [(0, ⟨some 5, .fadr 0 (.t 2), none⟩),
    (1, ⟨some 6, .load 1 false (.t 5), none⟩),
    (2, ⟨some 7, .fadr 0 (.t 3), none⟩),
    (3, ⟨some 8, .load 1 false (.t 7), none⟩),
    (4, ⟨some 9, .call .deep (.v (.clo F.slices_Compare_Lstring_string [] [])) [.t 6, .t 8], none⟩),
    (5, ⟨some 10, .fadr 2 (.t 2), none⟩),
    (6, ⟨some 11, .load 1 false (.t 10), none⟩),
    (7, ⟨some 12, .fadr 2 (.t 3), none⟩),
    (8, ⟨some 13, .load 1 false (.t 12), none⟩),
    (9, ⟨some 14, .call .deep (.v (.clo F.slices_CompareFunc_Lbool_Lbool_bool_bool [] [])) [.t 11, .t 13, .v (.clo F.shape_truth [] [])], none⟩),
    (10, ⟨some 15, .fadr 1 (.t 2), none⟩),
    (11, ⟨some 16, .load 1 false (.t 15), none⟩),
    (12, ⟨some 17, .fadr 1 (.t 3), none⟩),
    (13, ⟨some 18, .load 1 false (.t 17), none⟩),
    (14, ⟨some 19, .call .deep (.v (.clo F.slices_CompareFunc_LType_LType_Type_Type [] [])) [.t 16, .t 18, .v (.clo F.shape_Cmp [] [])], none⟩),
    (15, ⟨some 20, .fadr 3 (.t 2), none⟩),
    (16, ⟨some 21, .load 9 true (.t 20), none⟩),
    (17, ⟨some 22, .fadr 3 (.t 3), none⟩),
    (18, ⟨some 23, .load 9 true (.t 22), none⟩),
    (19, ⟨some 24, .call .deep (.v (.clo F.shape_Cmp [] [])) [.t 21, .t 23], none⟩),
    (20, ⟨some 25, .buildS 4 1 [.av (.int .i64 0)] [(0, 1, .t 9), (1, 1, .t 14), (2, 1, .t 19), (3, 1, .t 24)], none⟩),
    (21, ⟨some 26, .call .deep (.v (.clo F.cmp_Or_int [] [])) [.t 25], none⟩),
    (22, ⟨some 4, .asg (.t 26), none⟩)]]
def body : AC := .seq (.reg r0 [2, 3]) (.seq (.dreg r1 [4]) (.ret))
def fn : AFun := ⟨[.val, .val], 27, [.tmp 4], [], body⟩
end shape_obj
namespace hallmarkkit_SameSpans
def r0 : List AO := [⟨some 4, .asg (.v (.bool false)), none⟩]
def r1 : List AO := [⟨some 6, .mv (.t 0), none⟩,
  ⟨some 7, .len false (.t 6), none⟩,
  ⟨some 8, .mv (.t 1), none⟩,
  ⟨some 9, .len false (.t 8), none⟩,
  ⟨some 10, .bin .neq (.t 7) (.t 9), none⟩]
def r2 : List AO := [⟨some 4, .asg (.v (.bool false)), none⟩]
def r3 : List AO := [⟨some 5, .asg (.v (.int .i64 0)), none⟩]
def r4 : List AO := [⟨some 11, .mv (.t 5), none⟩,
  ⟨some 12, .mv (.t 0), none⟩,
  ⟨some 13, .len false (.t 12), none⟩,
  ⟨some 14, .bin .lss (.t 11) (.t 13), none⟩]
def r6 : List Ph := [.bag false [] [0, 1, 20, 24] [(0, ⟨some 17, .mv (.t 0), none⟩),
    (1, ⟨some 18, .mv (.t 5), none⟩),
    (2, ⟨some 19, .iadr 2 (.t 17) (.t 18), none⟩),
    (3, ⟨some 20, .load 2 true (.t 19), none⟩),
    (4, ⟨some 21, .mv (.t 1), none⟩),
    (5, ⟨some 22, .mv (.t 5), none⟩),
    (6, ⟨some 23, .iadr 2 (.t 21) (.t 22), none⟩),
    (7, ⟨some 24, .load 2 true (.t 23), none⟩),
    (8, ⟨some 25, .call .deep (.v (.clo F.hallmarkkit_SameSpan [] [])) [.t 20, .t 24], none⟩),
    (9, ⟨some 26, .un .not (.t 25), none⟩)]]
def r7 : List AO := [⟨some 4, .asg (.v (.bool false)), none⟩]
def r5 : List AO := [⟨some 15, .mv (.t 5), none⟩,
  ⟨some 16, .bin .add (.t 15) (.v (.int .i64 1)), none⟩,
  ⟨some 5, .asg (.t 16), none⟩]
def l1 : AC := .seq (.seq (.reg r4 [0, 1, 5, 14]) (.cond (.t 14) (.skip) (.exit 0))) (.seq (.block 1 (.seq (.dreg r6 [0, 1, 5, 26]) (.cond (.t 26) (.seq (.reg r7 [4]) (.ret)) (.skip)))) (.reg r5 [0, 1, 5]))
def r8 : List AO := [⟨some 4, .asg (.v (.bool true)), none⟩]
def body : AC := .seq (.reg r0 [0, 1]) (.seq (.seq (.reg r1 [0, 1, 10]) (.cond (.t 10) (.seq (.reg r2 [4]) (.ret)) (.skip))) (.seq (.seq (.reg r3 [0, 1, 5]) (.block 0 (.loop [0, 1, 5] l1))) (.seq (.reg r8 [4]) (.ret))))
def fn : AFun := ⟨[.val, .val], 27, [.tmp 4], [], body⟩
end hallmarkkit_SameSpans
namespace hallmarkkit_SameStrings
def r0 : List AO := [⟨some 4, .asg (.v (.bool false)), none⟩]
def r1 : List AO := [⟨some 6, .mv (.t 0), none⟩,
  ⟨some 7, .len false (.t 6), none⟩,
  ⟨some 8, .mv (.t 1), none⟩,
  ⟨some 9, .len false (.t 8), none⟩,
  ⟨some 10, .bin .neq (.t 7) (.t 9), none⟩]
def r2 : List AO := [⟨some 4, .asg (.v (.bool false)), none⟩]
def r3 : List AO := [⟨some 5, .asg (.v (.int .i64 0)), none⟩]
def r4 : List AO := [⟨some 11, .mv (.t 5), none⟩,
  ⟨some 12, .mv (.t 0), none⟩,
  ⟨some 13, .len false (.t 12), none⟩,
  ⟨some 14, .bin .lss (.t 11) (.t 13), none⟩]
def r6 : List Ph := [.bag false [] [0, 1] [(0, ⟨some 17, .mv (.t 0), none⟩),
    (1, ⟨some 18, .mv (.t 5), none⟩),
    (2, ⟨some 19, .iadr 1 (.t 17) (.t 18), none⟩),
    (3, ⟨some 20, .load 1 false (.t 19), none⟩),
    (4, ⟨some 21, .mv (.t 1), none⟩),
    (5, ⟨some 22, .mv (.t 5), none⟩),
    (6, ⟨some 23, .iadr 1 (.t 21) (.t 22), none⟩),
    (7, ⟨some 24, .load 1 false (.t 23), none⟩),
    (8, ⟨some 25, .bin .neq (.t 20) (.t 24), none⟩)]]
def r7 : List AO := [⟨some 4, .asg (.v (.bool false)), none⟩]
def r5 : List AO := [⟨some 15, .mv (.t 5), none⟩,
  ⟨some 16, .bin .add (.t 15) (.v (.int .i64 1)), none⟩,
  ⟨some 5, .asg (.t 16), none⟩]
def l1 : AC := .seq (.seq (.reg r4 [0, 1, 5, 14]) (.cond (.t 14) (.skip) (.exit 0))) (.seq (.block 1 (.seq (.dreg r6 [0, 1, 5, 25]) (.cond (.t 25) (.seq (.reg r7 [4]) (.ret)) (.skip)))) (.reg r5 [0, 1, 5]))
def r8 : List AO := [⟨some 4, .asg (.v (.bool true)), none⟩]
def body : AC := .seq (.reg r0 [0, 1]) (.seq (.seq (.reg r1 [0, 1, 10]) (.cond (.t 10) (.seq (.reg r2 [4]) (.ret)) (.skip))) (.seq (.seq (.reg r3 [0, 1, 5]) (.block 0 (.loop [0, 1, 5] l1))) (.seq (.reg r8 [4]) (.ret))))
def fn : AFun := ⟨[.val, .val], 26, [.tmp 4], [], body⟩
end hallmarkkit_SameStrings
namespace hallmarkkit_SameArrs
def r0 : List AO := [⟨some 4, .asg (.v (.bool false)), none⟩]
def r1 : List AO := [⟨some 6, .mv (.t 0), none⟩,
  ⟨some 7, .len false (.t 6), none⟩,
  ⟨some 8, .mv (.t 1), none⟩,
  ⟨some 9, .len false (.t 8), none⟩,
  ⟨some 10, .bin .neq (.t 7) (.t 9), none⟩]
def r2 : List AO := [⟨some 4, .asg (.v (.bool false)), none⟩]
def r3 : List AO := [⟨some 5, .asg (.v (.int .i64 0)), none⟩]
def r4 : List AO := [⟨some 11, .mv (.t 5), none⟩,
  ⟨some 12, .mv (.t 0), none⟩,
  ⟨some 13, .len false (.t 12), none⟩,
  ⟨some 14, .bin .lss (.t 11) (.t 13), none⟩]
def r6 : List Ph := [.bag false [] [0, 1, 20, 24] [(0, ⟨some 17, .mv (.t 0), none⟩),
    (1, ⟨some 18, .mv (.t 5), none⟩),
    (2, ⟨some 19, .iadr 11 (.t 17) (.t 18), none⟩),
    (3, ⟨some 20, .load 11 true (.t 19), none⟩),
    (4, ⟨some 21, .mv (.t 1), none⟩),
    (5, ⟨some 22, .mv (.t 5), none⟩),
    (6, ⟨some 23, .iadr 11 (.t 21) (.t 22), none⟩),
    (7, ⟨some 24, .load 11 true (.t 23), none⟩),
    (8, ⟨some 25, .call .deep (.v (.clo F.hallmarkkit_SameArr [] [])) [.t 20, .t 24], none⟩),
    (9, ⟨some 26, .un .not (.t 25), none⟩)]]
def r7 : List AO := [⟨some 4, .asg (.v (.bool false)), none⟩]
def r5 : List AO := [⟨some 15, .mv (.t 5), none⟩,
  ⟨some 16, .bin .add (.t 15) (.v (.int .i64 1)), none⟩,
  ⟨some 5, .asg (.t 16), none⟩]
def l1 : AC := .seq (.seq (.reg r4 [0, 1, 5, 14]) (.cond (.t 14) (.skip) (.exit 0))) (.seq (.block 1 (.seq (.dreg r6 [0, 1, 5, 26]) (.cond (.t 26) (.seq (.reg r7 [4]) (.ret)) (.skip)))) (.reg r5 [0, 1, 5]))
def r8 : List AO := [⟨some 4, .asg (.v (.bool true)), none⟩]
def body : AC := .seq (.reg r0 [0, 1]) (.seq (.seq (.reg r1 [0, 1, 10]) (.cond (.t 10) (.seq (.reg r2 [4]) (.ret)) (.skip))) (.seq (.seq (.reg r3 [0, 1, 5]) (.block 0 (.loop [0, 1, 5] l1))) (.seq (.reg r8 [4]) (.ret))))
def fn : AFun := ⟨[.val, .val], 27, [.tmp 4], [], body⟩
end hallmarkkit_SameArrs
namespace hallmarkkit_SameObjs
def r0 : List AO := [⟨some 4, .asg (.v (.bool false)), none⟩]
def r1 : List AO := [⟨some 6, .mv (.t 0), none⟩,
  ⟨some 7, .len false (.t 6), none⟩,
  ⟨some 8, .mv (.t 1), none⟩,
  ⟨some 9, .len false (.t 8), none⟩,
  ⟨some 10, .bin .neq (.t 7) (.t 9), none⟩]
def r2 : List AO := [⟨some 4, .asg (.v (.bool false)), none⟩]
def r3 : List AO := [⟨some 5, .asg (.v (.int .i64 0)), none⟩]
def r4 : List AO := [⟨some 11, .mv (.t 5), none⟩,
  ⟨some 12, .mv (.t 0), none⟩,
  ⟨some 13, .len false (.t 12), none⟩,
  ⟨some 14, .bin .lss (.t 11) (.t 13), none⟩]
def r6 : List Ph := [.bag false [] [0, 1, 20, 24] [(0, ⟨some 17, .mv (.t 0), none⟩),
    (1, ⟨some 18, .mv (.t 5), none⟩),
    (2, ⟨some 19, .iadr 12 (.t 17) (.t 18), none⟩),
    (3, ⟨some 20, .load 12 true (.t 19), none⟩),
    (4, ⟨some 21, .mv (.t 1), none⟩),
    (5, ⟨some 22, .mv (.t 5), none⟩),
    (6, ⟨some 23, .iadr 12 (.t 21) (.t 22), none⟩),
    (7, ⟨some 24, .load 12 true (.t 23), none⟩),
    (8, ⟨some 25, .call .deep (.v (.clo F.hallmarkkit_SameObj [] [])) [.t 20, .t 24], none⟩),
    (9, ⟨some 26, .un .not (.t 25), none⟩)]]
def r7 : List AO := [⟨some 4, .asg (.v (.bool false)), none⟩]
def r5 : List AO := [⟨some 15, .mv (.t 5), none⟩,
  ⟨some 16, .bin .add (.t 15) (.v (.int .i64 1)), none⟩,
  ⟨some 5, .asg (.t 16), none⟩]
def l1 : AC := .seq (.seq (.reg r4 [0, 1, 5, 14]) (.cond (.t 14) (.skip) (.exit 0))) (.seq (.block 1 (.seq (.dreg r6 [0, 1, 5, 26]) (.cond (.t 26) (.seq (.reg r7 [4]) (.ret)) (.skip)))) (.reg r5 [0, 1, 5]))
def r8 : List AO := [⟨some 4, .asg (.v (.bool true)), none⟩]
def body : AC := .seq (.reg r0 [0, 1]) (.seq (.seq (.reg r1 [0, 1, 10]) (.cond (.t 10) (.seq (.reg r2 [4]) (.ret)) (.skip))) (.seq (.seq (.reg r3 [0, 1, 5]) (.block 0 (.loop [0, 1, 5] l1))) (.seq (.reg r8 [4]) (.ret))))
def fn : AFun := ⟨[.val, .val], 27, [.tmp 4], [], body⟩
end hallmarkkit_SameObjs
namespace hallmarkref09_bound
def r0 : List AO := [⟨some 2, .asg (.v (.bool false)), none⟩]
def r1 : List AO := [⟨some 3, .mv (.t 0), none⟩,
  ⟨some 4, .bin .eql (.t 3) (.v (.str [])), none⟩,
  ⟨some 5, .mv (.t 4), none⟩,
  ⟨some 6, .mv (.t 0), some (5, false)⟩,
  ⟨some 7, .call .deep (.v (.clo F.hallmarkref03_Number [] [])) [.t 6], some (5, false)⟩,
  ⟨some 8, .pick (.t 5) (.v (.bool true)) (.t 7), none⟩,
  ⟨some 2, .asg (.t 8), none⟩]
def body : AC := .seq (.reg r0 [0]) (.seq (.reg r1 [2]) (.ret))
def fn : AFun := ⟨[.val], 9, [.tmp 2], [], body⟩
end hallmarkref09_bound
namespace hallmarkref09_Never
def r0 : List AO := [⟨some 1, .box (.t 0), none⟩,
  ⟨some 2, .asg (.v (.bool false)), none⟩]
def r1 : List AO := [⟨some 3, .fadr 0 (.t 1), none⟩,
  ⟨some 4, .load 1 false (.t 3), none⟩,
  ⟨some 5, .un .not (.t 4), none⟩,
  ⟨some 6, .mv (.t 5), none⟩,
  ⟨some 7, .take 9 true (.t 1), some (6, true)⟩,
  ⟨some 8, .call .deep (.v (.clo F.hallmarkref09_Bare [] [])) [.t 7], some (6, true)⟩,
  ⟨some 9, .pick (.t 6) (.t 8) (.v (.bool false)), none⟩,
  ⟨some 2, .asg (.t 9), none⟩]
def body : AC := .seq (.reg r0 [1]) (.seq (.reg r1 [2]) (.ret))
def fn : AFun := ⟨[.val], 10, [.tmp 2], [], body⟩
end hallmarkref09_Never
namespace hallmarkref09_object
def r0 : List AO := [⟨some 1, .box (.t 0), none⟩,
  ⟨some 2, .asg (.v (.bool false)), none⟩]
def r1 : List AO := [⟨some 4, .fadr 0 (.t 1), none⟩,
  ⟨some 5, .load 1 false (.t 4), none⟩,
  ⟨some 6, .len false (.t 5), none⟩,
  ⟨some 7, .fadr 1 (.t 1), none⟩,
  ⟨some 8, .load 1 false (.t 7), none⟩,
  ⟨some 9, .len false (.t 8), none⟩,
  ⟨some 10, .bin .neq (.t 6) (.t 9), none⟩,
  ⟨some 11, .mv (.t 10), none⟩,
  ⟨some 12, .fadr 0 (.t 1), some (11, false)⟩,
  ⟨some 13, .load 1 false (.t 12), some (11, false)⟩,
  ⟨some 14, .len false (.t 13), some (11, false)⟩,
  ⟨some 15, .fadr 2 (.t 1), some (11, false)⟩,
  ⟨some 16, .load 1 false (.t 15), some (11, false)⟩,
  ⟨some 17, .len false (.t 16), some (11, false)⟩,
  ⟨some 18, .bin .neq (.t 14) (.t 17), some (11, false)⟩,
  ⟨some 19, .pick (.t 11) (.v (.bool true)) (.t 18), none⟩,
  ⟨some 20, .mv (.t 19), none⟩,
  ⟨some 21, .fadr 0 (.t 1), some (20, false)⟩,
  ⟨some 22, .load 1 false (.t 21), some (20, false)⟩,
  ⟨some 23, .call .deep (.v (.clo F.hallmarkref03_Rise [] [])) [.t 22], some (20, false)⟩,
  ⟨some 24, .un .not (.t 23), some (20, false)⟩,
  ⟨some 25, .pick (.t 20) (.v (.bool true)) (.t 24), none⟩,
  ⟨some 26, .mv (.t 25), none⟩,
  ⟨some 27, .fadr 3 (.t 1), some (26, false)⟩,
  ⟨some 28, .load 9 true (.t 27), some (26, false)⟩,
  ⟨some 29, .call .deep (.v (.clo F.hallmarkref09_Formed [] [])) [.t 28], some (26, false)⟩,
  ⟨some 30, .un .not (.t 29), some (26, false)⟩,
  ⟨some 31, .pick (.t 26) (.v (.bool true)) (.t 30), none⟩]
def r2 : List AO := [⟨some 2, .asg (.v (.bool false)), none⟩]
def r3 : List AO := [⟨some 3, .asg (.v (.int .i64 0)), none⟩]
def r4 : List AO := [⟨some 32, .mv (.t 3), none⟩,
  ⟨some 33, .fadr 1 (.t 1), none⟩,
  ⟨some 34, .load 1 false (.t 33), none⟩,
  ⟨some 35, .len false (.t 34), none⟩,
  ⟨some 36, .bin .lss (.t 32) (.t 35), none⟩]
def r6 : List AO := [⟨some 39, .fadr 1 (.t 1), none⟩,
  ⟨some 40, .load 1 false (.t 39), none⟩,
  ⟨some 41, .mv (.t 3), none⟩,
  ⟨some 42, .iadr 9 (.t 40) (.t 41), none⟩,
  ⟨some 43, .load 9 true (.t 42), none⟩,
  ⟨some 44, .call .deep (.v (.clo F.hallmarkref09_Formed [] [])) [.t 43], none⟩,
  ⟨some 45, .un .not (.t 44), none⟩,
  ⟨some 46, .mv (.t 45), none⟩,
  ⟨some 47, .fadr 2 (.t 1), some (46, false)⟩,
  ⟨some 48, .load 1 false (.t 47), some (46, false)⟩,
  ⟨some 49, .mv (.t 3), some (46, false)⟩,
  ⟨some 50, .iadr 1 (.t 48) (.t 49), some (46, false)⟩,
  ⟨some 51, .load 1 false (.t 50), some (46, false)⟩,
  ⟨some 52, .mv (.t 51), some (46, false)⟩,
  ⟨some 53, .fadr 1 (.t 1), some (52, true)⟩,
  ⟨some 54, .load 1 false (.t 53), some (52, true)⟩,
  ⟨some 55, .mv (.t 3), some (52, true)⟩,
  ⟨some 56, .iadr 9 (.t 54) (.t 55), some (52, true)⟩,
  ⟨some 57, .load 9 true (.t 56), some (52, true)⟩,
  ⟨some 58, .call .deep (.v (.clo F.hallmarkref09_Never [] [])) [.t 57], some (52, true)⟩,
  ⟨some 59, .pick (.t 52) (.t 58) (.v (.bool false)), some (46, false)⟩,
  ⟨some 60, .pick (.t 46) (.v (.bool true)) (.t 59), none⟩]
def r7 : List AO := [⟨some 2, .asg (.v (.bool false)), none⟩]
def r5 : List AO := [⟨some 37, .mv (.t 3), none⟩,
  ⟨some 38, .bin .add (.t 37) (.v (.int .i64 1)), none⟩,
  ⟨some 3, .asg (.t 38), none⟩]
def l1 : AC := .seq (.seq (.reg r4 [1, 3, 36]) (.cond (.t 36) (.skip) (.exit 0))) (.seq (.block 1 (.seq (.reg r6 [1, 3, 60]) (.cond (.t 60) (.seq (.reg r7 [2]) (.ret)) (.skip)))) (.reg r5 [1, 3]))
def r8 : List AO := [⟨some 2, .asg (.v (.bool true)), none⟩]
def body : AC := .seq (.reg r0 [1]) (.seq (.seq (.reg r1 [1, 31]) (.cond (.t 31) (.seq (.reg r2 [2]) (.ret)) (.skip))) (.seq (.seq (.reg r3 [1, 3]) (.block 0 (.loop [1, 3] l1))) (.seq (.reg r8 [2]) (.ret))))
def fn : AFun := ⟨[.val], 61, [.tmp 2], [], body⟩
end hallmarkref09_object
namespace shape_bound
def r0 : List AO := [⟨some 6, .asg (.v (.int .i64 0)), none⟩]
def r1 : List AO := [⟨some 8, .mv (.t 0), none⟩,
  ⟨some 9, .mv (.t 1), none⟩,
  ⟨some 10, .bin .eql (.t 8) (.t 9), none⟩,
  ⟨some 7, .asg (.t 10), none⟩]
def r2 : List AO := [⟨some 6, .asg (.v (.int .i64 0)), none⟩]
def r3 : List AO := [⟨some 12, .mv (.t 0), none⟩,
  ⟨some 13, .bin .eql (.t 12) (.v (.str [])), none⟩,
  ⟨some 11, .asg (.t 13), none⟩]
def r4 : List AO := [⟨some 14, .mv (.t 2), none⟩,
  ⟨some 6, .asg (.t 14), none⟩]
def r5 : List AO := [⟨some 16, .mv (.t 1), none⟩,
  ⟨some 17, .bin .eql (.t 16) (.v (.str [])), none⟩,
  ⟨some 15, .asg (.t 17), none⟩]
def r6 : List AO := [⟨some 18, .mv (.t 2), none⟩,
  ⟨some 19, .un .neg (.t 18), none⟩,
  ⟨some 6, .asg (.t 19), none⟩]
def r7 : List AO := [⟨some 20, .mv (.t 0), none⟩,
  ⟨some 21, .mv (.t 1), none⟩,
  ⟨some 22, .call .deep (.v (.clo F.shape_worth [] [])) [.t 20, .t 21], none⟩,
  ⟨some 6, .asg (.t 22), none⟩]
def body : AC := .seq (.reg r0 [0, 1, 2]) (.seq (.block 0 (.seq (.reg r1 [0, 1, 2, 7]) (.cond (.t 7) (.seq (.reg r2 [6]) (.ret)) (.seq (.reg r3 [0, 1, 2, 11]) (.cond (.t 11) (.seq (.reg r4 [6]) (.ret)) (.seq (.reg r5 [0, 1, 2, 15]) (.cond (.t 15) (.seq (.reg r6 [6]) (.ret)) (.skip)))))))) (.seq (.reg r7 [6]) (.ret)))
def fn : AFun := ⟨[.val, .val, .val], 23, [.tmp 6], [], body⟩
end shape_bound
namespace shape_most
def r0 : List AO := [⟨some 4, .asg (.v (.int .i64 0)), none⟩]
def r1 : List AO := [⟨some 6, .mv (.t 0), none⟩,
  ⟨some 7, .mv (.t 1), none⟩,
  ⟨some 8, .bin .eql (.t 6) (.t 7), none⟩,
  ⟨some 5, .asg (.t 8), none⟩]
def r2 : List AO := [⟨some 4, .asg (.v (.int .i64 0)), none⟩]
def r3 : List AO := [⟨some 10, .mv (.t 0), none⟩,
  ⟨some 11, .bin .lss (.t 10) (.v (.int .i64 0)), none⟩,
  ⟨some 9, .asg (.t 11), none⟩]
def r4 : List AO := [⟨some 4, .asg (.v (.int .i64 1)), none⟩]
def r5 : List AO := [⟨some 13, .mv (.t 1), none⟩,
  ⟨some 14, .bin .lss (.t 13) (.v (.int .i64 0)), none⟩,
  ⟨some 12, .asg (.t 14), none⟩]
def r6 : List AO := [⟨some 4, .asg (.v (.int .i64 (-1))), none⟩]
def r7 : List AO := [⟨some 15, .mv (.t 0), none⟩,
  ⟨some 16, .mv (.t 1), none⟩,
  ⟨some 17, .call .deep (.v (.clo F.cmp_Compare_int [] [])) [.t 15, .t 16], none⟩,
  ⟨some 4, .asg (.t 17), none⟩]
def body : AC := .seq (.reg r0 [0, 1]) (.seq (.block 0 (.seq (.reg r1 [0, 1, 5]) (.cond (.t 5) (.seq (.reg r2 [4]) (.ret)) (.seq (.reg r3 [0, 1, 9]) (.cond (.t 9) (.seq (.reg r4 [4]) (.ret)) (.seq (.reg r5 [0, 1, 12]) (.cond (.t 12) (.seq (.reg r6 [4]) (.ret)) (.skip)))))))) (.seq (.reg r7 [4]) (.ret)))
def fn : AFun := ⟨[.val, .val], 18, [.tmp 4], [], body⟩
end shape_most
namespace slices_CompareFunc_Lbool_Lbool_bool_bool
def r0 : List AO := [⟨some 6, .asg (.v (.int .i64 0)), none⟩]
def r1 : List AO := [⟨some 11, .mv (.t 0), none⟩,
  ⟨some 12, .len false (.t 11), none⟩,
  ⟨some 13, .mv (.v (.int .i64 0)), none⟩]
def r2 : List AO := [⟨some 14, .bin .lss (.t 13) (.t 12), none⟩]
def r3 : List AO := [⟨some 15, .mv (.t 13), none⟩,
  ⟨some 16, .iadr 1 (.t 11) (.t 13), none⟩,
  ⟨some 17, .load 1 false (.t 16), none⟩,
  ⟨some 7, .asg (.t 15), none⟩,
  ⟨some 8, .asg (.t 17), none⟩]
def r4 : List AO := [⟨some 18, .mv (.t 7), none⟩,
  ⟨some 19, .mv (.t 1), none⟩,
  ⟨some 20, .len false (.t 19), none⟩,
  ⟨some 21, .bin .geq (.t 18) (.t 20), none⟩]
def r5 : List AO := [⟨some 6, .asg (.v (.int .i64 1)), none⟩]
def r6 : List AO := [⟨some 22, .mv (.t 1), none⟩,
  ⟨some 23, .mv (.t 7), none⟩,
  ⟨some 24, .iadr 1 (.t 22) (.t 23), none⟩,
  ⟨some 25, .load 1 false (.t 24), none⟩,
  ⟨some 9, .asg (.t 25), none⟩]
def r7 : List AO := [⟨some 26, .mv (.t 2), none⟩,
  ⟨some 27, .mv (.t 8), none⟩,
  ⟨some 28, .mv (.t 9), none⟩,
  ⟨some 29, .call .deep (.t 26) [.t 27, .t 28], none⟩,
  ⟨some 10, .asg (.t 29), none⟩]
def r8 : List AO := [⟨some 30, .mv (.t 10), none⟩,
  ⟨some 31, .bin .neq (.t 30) (.v (.int .i64 0)), none⟩]
def r9 : List AO := [⟨some 32, .mv (.t 10), none⟩,
  ⟨some 6, .asg (.t 32), none⟩]
def r10 : List AO := [⟨some 33, .bin .add (.t 13) (.v (.int .i64 1)), none⟩,
  ⟨some 13, .mv (.t 33), none⟩]
def l1 : AC := .seq (.reg r2 [0, 1, 2, 11, 12, 13, 14]) (.seq (.cond (.t 14) (.skip) (.exit 0)) (.seq (.block 1 (.seq (.reg r3 [0, 1, 2, 7, 8, 11, 12, 13]) (.seq (.seq (.reg r4 [0, 1, 2, 7, 8, 11, 12, 13, 21]) (.cond (.t 21) (.seq (.reg r5 [6]) (.ret)) (.skip))) (.seq (.reg r6 [0, 1, 2, 8, 9, 11, 12, 13]) (.seq (.reg r7 [0, 1, 2, 10, 11, 12, 13]) (.seq (.reg r8 [0, 1, 2, 10, 11, 12, 13, 31]) (.cond (.t 31) (.seq (.reg r9 [6]) (.ret)) (.skip)))))))) (.reg r10 [0, 1, 2, 11, 12, 13])))
def r11 : List AO := [⟨some 34, .mv (.t 0), none⟩,
  ⟨some 35, .len false (.t 34), none⟩,
  ⟨some 36, .mv (.t 1), none⟩,
  ⟨some 37, .len false (.t 36), none⟩,
  ⟨some 38, .bin .lss (.t 35) (.t 37), none⟩]
def r12 : List AO := [⟨some 6, .asg (.v (.int .i64 (-1))), none⟩]
def r13 : List AO := [⟨some 6, .asg (.v (.int .i64 0)), none⟩]
def body : AC := .seq (.reg r0 [0, 1, 2]) (.seq (.seq (.reg r1 [0, 1, 2, 11, 12, 13]) (.block 0 (.loop [0, 1, 2, 11, 12, 13] l1))) (.seq (.seq (.reg r11 [38]) (.cond (.t 38) (.seq (.reg r12 [6]) (.ret)) (.skip))) (.seq (.reg r13 [6]) (.ret))))
def fn : AFun := ⟨[.val, .val, .val], 39, [.tmp 6], [], body⟩
end slices_CompareFunc_Lbool_Lbool_bool_bool
namespace slices_CompareFunc_LType_LType_Type_Type
def r0 : List AO := [⟨some 6, .asg (.v (.int .i64 0)), none⟩]
def r1 : List AO := [⟨some 11, .mv (.t 0), none⟩,
  ⟨some 12, .len false (.t 11), none⟩,
  ⟨some 13, .mv (.v (.int .i64 0)), none⟩]
def r2 : List AO := [⟨some 14, .bin .lss (.t 13) (.t 12), none⟩]
def r3 : List AO := [⟨some 15, .mv (.t 13), none⟩,
  ⟨some 16, .iadr 9 (.t 11) (.t 13), none⟩,
  ⟨some 17, .load 9 true (.t 16), none⟩,
  ⟨some 8, .alloc [.av (.bool false), .av (.bool false), .av (.bool false), .av (.bool false), .own 2 [], .av (.bool false), .own 1 [], .own 11 [], .own 12 []], none⟩,
  ⟨some 7, .asg (.t 15), none⟩,
  ⟨none, .store 9 (.t 8) (.t 17), none⟩]
def r4 : List AO := [⟨some 18, .mv (.t 7), none⟩,
  ⟨some 19, .mv (.t 1), none⟩,
  ⟨some 20, .len false (.t 19), none⟩,
  ⟨some 21, .bin .geq (.t 18) (.t 20), none⟩]
def r5 : List AO := [⟨some 6, .asg (.v (.int .i64 1)), none⟩]
def r6 : List AO := [⟨some 22, .mv (.t 1), none⟩,
  ⟨some 23, .mv (.t 7), none⟩,
  ⟨some 24, .iadr 9 (.t 22) (.t 23), none⟩,
  ⟨some 25, .load 9 true (.t 24), none⟩,
  ⟨some 9, .alloc [.av (.bool false), .av (.bool false), .av (.bool false), .av (.bool false), .own 2 [], .av (.bool false), .own 1 [], .own 11 [], .own 12 []], none⟩,
  ⟨none, .store 9 (.t 9) (.t 25), none⟩]
def r7 : List AO := [⟨some 26, .mv (.t 2), none⟩,
  ⟨some 27, .take 9 true (.t 8), none⟩,
  ⟨some 28, .take 9 true (.t 9), none⟩,
  ⟨some 29, .call .deep (.t 26) [.t 27, .t 28], none⟩,
  ⟨some 10, .asg (.t 29), none⟩]
def r8 : List AO := [⟨some 30, .mv (.t 10), none⟩,
  ⟨some 31, .bin .neq (.t 30) (.v (.int .i64 0)), none⟩]
def r9 : List AO := [⟨some 32, .mv (.t 10), none⟩,
  ⟨some 6, .asg (.t 32), none⟩]
def r10 : List AO := [⟨some 33, .bin .add (.t 13) (.v (.int .i64 1)), none⟩,
  ⟨some 13, .mv (.t 33), none⟩]
def l1 : AC := .seq (.reg r2 [0, 1, 2, 11, 12, 13, 14]) (.seq (.cond (.t 14) (.skip) (.exit 0)) (.seq (.block 1 (.seq (.reg r3 [0, 1, 2, 7, 8, 11, 12, 13]) (.seq (.seq (.reg r4 [0, 1, 2, 7, 8, 11, 12, 13, 21]) (.cond (.t 21) (.seq (.reg r5 [6]) (.ret)) (.skip))) (.seq (.reg r6 [0, 1, 2, 8, 9, 11, 12, 13]) (.seq (.reg r7 [0, 1, 2, 10, 11, 12, 13]) (.seq (.reg r8 [0, 1, 2, 10, 11, 12, 13, 31]) (.cond (.t 31) (.seq (.reg r9 [6]) (.ret)) (.skip)))))))) (.reg r10 [0, 1, 2, 11, 12, 13])))
def r11 : List AO := [⟨some 34, .mv (.t 0), none⟩,
  ⟨some 35, .len false (.t 34), none⟩,
  ⟨some 36, .mv (.t 1), none⟩,
  ⟨some 37, .len false (.t 36), none⟩,
  ⟨some 38, .bin .lss (.t 35) (.t 37), none⟩]
def r12 : List AO := [⟨some 6, .asg (.v (.int .i64 (-1))), none⟩]
def r13 : List AO := [⟨some 6, .asg (.v (.int .i64 0)), none⟩]
def body : AC := .seq (.reg r0 [0, 1, 2]) (.seq (.seq (.reg r1 [0, 1, 2, 11, 12, 13]) (.block 0 (.loop [0, 1, 2, 11, 12, 13] l1))) (.seq (.seq (.reg r11 [38]) (.cond (.t 38) (.seq (.reg r12 [6]) (.ret)) (.skip))) (.seq (.reg r13 [6]) (.ret))))
def fn : AFun := ⟨[.val, .val, .val], 39, [.tmp 6], [], body⟩
end slices_CompareFunc_LType_LType_Type_Type
namespace hallmarkkit_SameSpan
def r0 : List AO := [⟨some 2, .box (.t 0), none⟩,
  ⟨some 3, .box (.t 1), none⟩,
  ⟨some 4, .asg (.v (.bool false)), none⟩]
def r1 : List AO := [⟨some 5, .fadr 0 (.t 2), none⟩,
  ⟨some 6, .load 1 false (.t 5), none⟩,
  ⟨some 7, .fadr 0 (.t 3), none⟩,
  ⟨some 8, .load 1 false (.t 7), none⟩,
  ⟨some 9, .bin .neq (.t 6) (.t 8), none⟩,
  ⟨some 10, .mv (.t 9), none⟩,
  ⟨some 11, .fadr 1 (.t 2), some (10, false)⟩,
  ⟨some 12, .load 1 false (.t 11), some (10, false)⟩,
  ⟨some 13, .fadr 1 (.t 3), some (10, false)⟩,
  ⟨some 14, .load 1 false (.t 13), some (10, false)⟩,
  ⟨some 15, .bin .neq (.t 12) (.t 14), some (10, false)⟩,
  ⟨some 16, .pick (.t 10) (.v (.bool true)) (.t 15), none⟩]
def r2 : List AO := [⟨some 4, .asg (.v (.bool false)), none⟩]
def r3 : List AO := [⟨some 4, .asg (.v (.bool true)), none⟩]
def body : AC := .seq (.reg r0 [2, 3]) (.seq (.seq (.reg r1 [16]) (.cond (.t 16) (.seq (.reg r2 [4]) (.ret)) (.skip))) (.seq (.reg r3 [4]) (.ret)))
def fn : AFun := ⟨[.val, .val], 17, [.tmp 4], [], body⟩
end hallmarkkit_SameSpan
namespace hallmarkkit_SameArr
def r0 : List AO := [⟨some 2, .box (.t 0), none⟩,
  ⟨some 3, .box (.t 1), none⟩,
  ⟨some 4, .asg (.v (.bool false)), none⟩]
def r1 : List AO := [⟨some 5, .fadr 9 (.t 2), none⟩,
  ⟨some 6, .load 1 false (.t 5), none⟩,
  ⟨some 7, .fadr 9 (.t 3), none⟩,
  ⟨some 8, .load 1 false (.t 7), none⟩,
  ⟨some 9, .bin .neq (.t 6) (.t 8), none⟩,
  ⟨some 10, .mv (.t 9), none⟩,
  ⟨some 11, .fadr 10 (.t 2), some (10, false)⟩,
  ⟨some 12, .load 1 false (.t 11), some (10, false)⟩,
  ⟨some 13, .fadr 10 (.t 3), some (10, false)⟩,
  ⟨some 14, .load 1 false (.t 13), some (10, false)⟩,
  ⟨some 15, .bin .neq (.t 12) (.t 14), some (10, false)⟩,
  ⟨some 16, .pick (.t 10) (.v (.bool true)) (.t 15), none⟩]
def r2 : List AO := [⟨some 4, .asg (.v (.bool false)), none⟩]
def r3 : List AO := [⟨some 17, .fadr 0 (.t 2), none⟩,
  ⟨some 18, .take 9 true (.t 17), none⟩,
  ⟨some 19, .fadr 0 (.t 3), none⟩,
  ⟨some 20, .take 9 true (.t 19), none⟩,
  ⟨some 21, .call .deep (.v (.clo F.hallmarkkit_SameType [] [])) [.t 18, .t 20], none⟩,
  ⟨some 22, .un .not (.t 21), none⟩]
def r4 : List AO := [⟨some 4, .asg (.v (.bool false)), none⟩]
def r5 : List AO := [⟨some 4, .asg (.v (.bool true)), none⟩]
def body : AC := .seq (.reg r0 [2, 3]) (.seq (.seq (.reg r1 [2, 3, 16]) (.cond (.t 16) (.seq (.reg r2 [4]) (.ret)) (.skip))) (.seq (.seq (.reg r3 [22]) (.cond (.t 22) (.seq (.reg r4 [4]) (.ret)) (.skip))) (.seq (.reg r5 [4]) (.ret))))
def fn : AFun := ⟨[.val, .val], 23, [.tmp 4], [], body⟩
end hallmarkkit_SameArr
namespace hallmarkkit_SameObj
def r0 : List AO := [⟨some 2, .box (.t 0), none⟩,
  ⟨some 3, .box (.t 1), none⟩,
  ⟨some 4, .asg (.v (.bool false)), none⟩]
def r1 : List AO := [⟨some 4, .asg (.v (.bool false)), none⟩]
def r2 : List AO := [⟨some 5, .fadr 0 (.t 2), none⟩,
  ⟨some 6, .load 1 false (.t 5), none⟩,
  ⟨some 7, .fadr 0 (.t 3), none⟩,
  ⟨some 8, .load 1 false (.t 7), none⟩,
  ⟨some 9, .call .deep (.v (.clo F.hallmarkkit_SameStrings [] [])) [.t 6, .t 8], none⟩,
  ⟨some 10, .un .not (.t 9), none⟩]
def r3 : List AO := [⟨some 4, .asg (.v (.bool false)), none⟩]
def r4 : List AO := [⟨some 11, .fadr 1 (.t 2), none⟩,
  ⟨some 12, .load 1 false (.t 11), none⟩,
  ⟨some 13, .fadr 1 (.t 3), none⟩,
  ⟨some 14, .load 1 false (.t 13), none⟩,
  ⟨some 15, .call .deep (.v (.clo F.hallmarkkit_SameTypes [] [])) [.t 12, .t 14], none⟩,
  ⟨some 16, .un .not (.t 15), none⟩]
def r5 : List AO := [⟨some 4, .asg (.v (.bool false)), none⟩]
def r6 : List AO := [⟨some 17, .fadr 2 (.t 2), none⟩,
  ⟨some 18, .load 1 false (.t 17), none⟩,
  ⟨some 19, .fadr 2 (.t 3), none⟩,
  ⟨some 20, .load 1 false (.t 19), none⟩,
  ⟨some 21, .call .deep (.v (.clo F.hallmarkkit_SameBools [] [])) [.t 18, .t 20], none⟩,
  ⟨some 22, .un .not (.t 21), none⟩]
def r7 : List AO := [⟨some 4, .asg (.v (.bool false)), none⟩]
def r8 : List AO := [⟨some 23, .fadr 3 (.t 2), none⟩,
  ⟨some 24, .take 9 true (.t 23), none⟩,
  ⟨some 25, .fadr 3 (.t 3), none⟩,
  ⟨some 26, .take 9 true (.t 25), none⟩,
  ⟨some 27, .call .deep (.v (.clo F.hallmarkkit_SameType [] [])) [.t 24, .t 26], none⟩,
  ⟨some 28, .un .not (.t 27), none⟩]
def r9 : List AO := [⟨some 4, .asg (.v (.bool false)), none⟩]
def r10 : List AO := [⟨some 4, .asg (.v (.bool true)), none⟩]
def body : AC := .seq (.reg r0 [2, 3]) (.seq (.cond (.v (.bool false)) (.seq (.reg r1 [4]) (.ret)) (.skip)) (.seq (.seq (.reg r2 [2, 3, 10]) (.cond (.t 10) (.seq (.reg r3 [4]) (.ret)) (.skip))) (.seq (.seq (.reg r4 [2, 3, 16]) (.cond (.t 16) (.seq (.reg r5 [4]) (.ret)) (.skip))) (.seq (.seq (.reg r6 [2, 3, 22]) (.cond (.t 22) (.seq (.reg r7 [4]) (.ret)) (.skip))) (.seq (.seq (.reg r8 [28]) (.cond (.t 28) (.seq (.reg r9 [4]) (.ret)) (.skip))) (.seq (.reg r10 [4]) (.ret)))))))
def fn : AFun := ⟨[.val, .val], 29, [.tmp 4], [], body⟩
end hallmarkkit_SameObj
namespace shape_worth
def r0 : List AO := [⟨some 4, .asg (.v (.int .i64 0)), none⟩]
def r1 : List AO := [⟨some 8, .mv (.t 0), none⟩,
  ⟨some 9, .mv (.t 1), none⟩,
  ⟨some 10, .call .deep (.v (.clo F.tens_Cmp [] [])) [.t 8, .t 9], none⟩,
  ⟨some 7, .mv (.t 10), none⟩,
  ⟨some 11, .ext (.t 7) 0, none⟩,
  ⟨some 12, .ext (.t 7) 1, none⟩,
  ⟨some 5, .asg (.t 11), none⟩,
  ⟨some 6, .asg (.t 12), none⟩]
def r2 : List AO := [⟨some 13, .mv (.t 5), none⟩,
  ⟨some 4, .asg (.t 13), none⟩]
def body : AC := .seq (.reg r0 [0, 1]) (.seq (.reg r1 [5]) (.seq (.reg r2 [4]) (.ret)))
def fn : AFun := ⟨[.val, .val], 14, [.tmp 4], [], body⟩
end shape_worth
namespace hallmarkkit_SameTypes
def r0 : List AO := [⟨some 4, .asg (.v (.bool false)), none⟩]
def r1 : List AO := [⟨some 6, .mv (.t 0), none⟩,
  ⟨some 7, .len false (.t 6), none⟩,
  ⟨some 8, .mv (.t 1), none⟩,
  ⟨some 9, .len false (.t 8), none⟩,
  ⟨some 10, .bin .neq (.t 7) (.t 9), none⟩]
def r2 : List AO := [⟨some 4, .asg (.v (.bool false)), none⟩]
def r3 : List AO := [⟨some 5, .asg (.v (.int .i64 0)), none⟩]
def r4 : List AO := [⟨some 11, .mv (.t 5), none⟩,
  ⟨some 12, .mv (.t 0), none⟩,
  ⟨some 13, .len false (.t 12), none⟩,
  ⟨some 14, .bin .lss (.t 11) (.t 13), none⟩]
def r6 : List Ph := [.bag false [] [0, 1, 20, 24] [(0, ⟨some 17, .mv (.t 0), none⟩),
    (1, ⟨some 18, .mv (.t 5), none⟩),
    (2, ⟨some 19, .iadr 9 (.t 17) (.t 18), none⟩),
    (3, ⟨some 20, .load 9 true (.t 19), none⟩),
    (4, ⟨some 21, .mv (.t 1), none⟩),
    (5, ⟨some 22, .mv (.t 5), none⟩),
    (6, ⟨some 23, .iadr 9 (.t 21) (.t 22), none⟩),
    (7, ⟨some 24, .load 9 true (.t 23), none⟩),
    (8, ⟨some 25, .call .deep (.v (.clo F.hallmarkkit_SameType [] [])) [.t 20, .t 24], none⟩),
    (9, ⟨some 26, .un .not (.t 25), none⟩)]]
def r7 : List AO := [⟨some 4, .asg (.v (.bool false)), none⟩]
def r5 : List AO := [⟨some 15, .mv (.t 5), none⟩,
  ⟨some 16, .bin .add (.t 15) (.v (.int .i64 1)), none⟩,
  ⟨some 5, .asg (.t 16), none⟩]
def l1 : AC := .seq (.seq (.reg r4 [0, 1, 5, 14]) (.cond (.t 14) (.skip) (.exit 0))) (.seq (.block 1 (.seq (.dreg r6 [0, 1, 5, 26]) (.cond (.t 26) (.seq (.reg r7 [4]) (.ret)) (.skip)))) (.reg r5 [0, 1, 5]))
def r8 : List AO := [⟨some 4, .asg (.v (.bool true)), none⟩]
def body : AC := .seq (.reg r0 [0, 1]) (.seq (.seq (.reg r1 [0, 1, 10]) (.cond (.t 10) (.seq (.reg r2 [4]) (.ret)) (.skip))) (.seq (.seq (.reg r3 [0, 1, 5]) (.block 0 (.loop [0, 1, 5] l1))) (.seq (.reg r8 [4]) (.ret))))
def fn : AFun := ⟨[.val, .val], 27, [.tmp 4], [], body⟩
end hallmarkkit_SameTypes
namespace hallmarkkit_SameBools
def r0 : List AO := [⟨some 4, .asg (.v (.bool false)), none⟩]
def r1 : List AO := [⟨some 6, .mv (.t 0), none⟩,
  ⟨some 7, .len false (.t 6), none⟩,
  ⟨some 8, .mv (.t 1), none⟩,
  ⟨some 9, .len false (.t 8), none⟩,
  ⟨some 10, .bin .neq (.t 7) (.t 9), none⟩]
def r2 : List AO := [⟨some 4, .asg (.v (.bool false)), none⟩]
def r3 : List AO := [⟨some 5, .asg (.v (.int .i64 0)), none⟩]
def r4 : List AO := [⟨some 11, .mv (.t 5), none⟩,
  ⟨some 12, .mv (.t 0), none⟩,
  ⟨some 13, .len false (.t 12), none⟩,
  ⟨some 14, .bin .lss (.t 11) (.t 13), none⟩]
def r6 : List Ph := [.bag false [] [0, 1] [(0, ⟨some 17, .mv (.t 0), none⟩),
    (1, ⟨some 18, .mv (.t 5), none⟩),
    (2, ⟨some 19, .iadr 1 (.t 17) (.t 18), none⟩),
    (3, ⟨some 20, .load 1 false (.t 19), none⟩),
    (4, ⟨some 21, .mv (.t 1), none⟩),
    (5, ⟨some 22, .mv (.t 5), none⟩),
    (6, ⟨some 23, .iadr 1 (.t 21) (.t 22), none⟩),
    (7, ⟨some 24, .load 1 false (.t 23), none⟩),
    (8, ⟨some 25, .binB true (.t 20) (.t 24), none⟩)]]
def r7 : List AO := [⟨some 4, .asg (.v (.bool false)), none⟩]
def r5 : List AO := [⟨some 15, .mv (.t 5), none⟩,
  ⟨some 16, .bin .add (.t 15) (.v (.int .i64 1)), none⟩,
  ⟨some 5, .asg (.t 16), none⟩]
def l1 : AC := .seq (.seq (.reg r4 [0, 1, 5, 14]) (.cond (.t 14) (.skip) (.exit 0))) (.seq (.block 1 (.seq (.dreg r6 [0, 1, 5, 25]) (.cond (.t 25) (.seq (.reg r7 [4]) (.ret)) (.skip)))) (.reg r5 [0, 1, 5]))
def r8 : List AO := [⟨some 4, .asg (.v (.bool true)), none⟩]
def body : AC := .seq (.reg r0 [0, 1]) (.seq (.seq (.reg r1 [0, 1, 10]) (.cond (.t 10) (.seq (.reg r2 [4]) (.ret)) (.skip))) (.seq (.seq (.reg r3 [0, 1, 5]) (.block 0 (.loop [0, 1, 5] l1))) (.seq (.reg r8 [4]) (.ret))))
def fn : AFun := ⟨[.val, .val], 26, [.tmp 4], [], body⟩
end hallmarkkit_SameBools
end Hm
