/- The cleaned code of the functions that the law reaches, printed by program. Conditions: none (definitions). -/
import Derived.Test.YtkhikkdhpidohaaHA
set_option maxRecDepth 100000
namespace Hm
namespace F
abbrev hallmarkref03_Number : Nat := 17
abbrev tens_Cmp : Nat := 46
abbrev tens_Formed : Nat := 54
abbrev tens_split : Nat := 55
abbrev tens_size : Nat := 56
abbrev hallmarkref03_Numbers : Nat := 107
abbrev hallmarkref03_Texts : Nat := 108
abbrev hallmarkref09_InSpan : Nat := 195
abbrev hallmarklaw12_BelowSpans : Nat := 317
abbrev below_Span : Nat := 318
abbrev hallmarklaw12_bounds : Nat := 319
abbrev hallmarkref12_Span : Nat := 320
abbrev below_hollow : Nat := 331
abbrev below_worth : Nat := 332
abbrev hallmarkref12_Hollow : Nat := 333
end F
namespace hallmarkref03_Number
def r0 : List AO := [⟨some 2, .asg (.v (.bool false)), none⟩]
def r1 : List AO := [⟨some 5, .mv (.t 0), none⟩,
  ⟨some 3, .asg (.t 5), none⟩]
def r2 : List AO := [⟨some 6, .mv (.t 0), none⟩,
  ⟨some 7, .len true (.t 6), none⟩,
  ⟨some 8, .bin .gtr (.t 7) (.v (.int .i64 0)), none⟩,
  ⟨some 9, .mv (.t 8), none⟩,
  ⟨some 10, .mv (.t 0), some (9, true)⟩,
  ⟨some 11, .idxS (.t 10) (.v (.int .i64 0)), some (9, true)⟩,
  ⟨some 12, .bin .eql (.t 11) (.v (.int .u8 45)), some (9, true)⟩,
  ⟨some 13, .pick (.t 9) (.t 12) (.v (.bool false)), none⟩]
def r3 : List AO := [⟨some 14, .mv (.t 0), none⟩,
  ⟨some 15, .slc true 1 (.t 14) (some (.v (.int .i64 1))) none, none⟩,
  ⟨some 3, .asg (.t 15), none⟩]
def r4 : List AO := [⟨some 4, .asg (.v (.int .i64 0)), none⟩]
def r5 : List AO := [⟨some 16, .mv (.t 4), none⟩,
  ⟨some 17, .mv (.t 3), none⟩,
  ⟨some 18, .len true (.t 17), none⟩,
  ⟨some 19, .bin .lss (.t 16) (.t 18), none⟩]
def r7 : List AO := [⟨some 22, .mv (.t 3), none⟩,
  ⟨some 23, .mv (.t 4), none⟩,
  ⟨some 24, .idxS (.t 22) (.t 23), none⟩,
  ⟨some 25, .bin .lss (.t 24) (.v (.int .u8 48)), none⟩,
  ⟨some 26, .mv (.t 25), none⟩,
  ⟨some 27, .mv (.t 3), some (26, false)⟩,
  ⟨some 28, .mv (.t 4), some (26, false)⟩,
  ⟨some 29, .idxS (.t 27) (.t 28), some (26, false)⟩,
  ⟨some 30, .bin .gtr (.t 29) (.v (.int .u8 57)), some (26, false)⟩,
  ⟨some 31, .pick (.t 26) (.v (.bool true)) (.t 30), none⟩]
def r8 : List AO := [⟨some 2, .asg (.v (.bool false)), none⟩]
def r6 : List AO := [⟨some 20, .mv (.t 4), none⟩,
  ⟨some 21, .bin .add (.t 20) (.v (.int .i64 1)), none⟩,
  ⟨some 4, .asg (.t 21), none⟩]
def l1 : AC := .seq (.seq (.reg r5 [0, 3, 4, 19]) (.cond (.t 19) (.skip) (.exit 0))) (.seq (.block 1 (.seq (.reg r7 [0, 3, 4, 31]) (.cond (.t 31) (.seq (.reg r8 [2]) (.ret)) (.skip)))) (.reg r6 [0, 3, 4]))
def r9 : List AO := [⟨some 32, .mv (.t 3), none⟩,
  ⟨some 33, .len true (.t 32), none⟩,
  ⟨some 34, .bin .eql (.t 33) (.v (.int .i64 0)), none⟩,
  ⟨some 35, .mv (.t 34), none⟩,
  ⟨some 36, .mv (.t 3), some (35, false)⟩,
  ⟨some 37, .idxS (.t 36) (.v (.int .i64 0)), some (35, false)⟩,
  ⟨some 38, .bin .eql (.t 37) (.v (.int .u8 48)), some (35, false)⟩,
  ⟨some 39, .mv (.t 38), some (35, false)⟩,
  ⟨some 40, .mv (.t 0), some (39, true)⟩,
  ⟨some 41, .bin .neq (.t 40) (.v (.str [48])), some (39, true)⟩,
  ⟨some 42, .pick (.t 39) (.t 41) (.v (.bool false)), some (35, false)⟩,
  ⟨some 43, .pick (.t 35) (.v (.bool true)) (.t 42), none⟩]
def r10 : List AO := [⟨some 2, .asg (.v (.bool false)), none⟩]
def r11 : List AO := [⟨some 2, .asg (.v (.bool true)), none⟩]
def body : AC := .seq (.reg r0 [0]) (.seq (.reg r1 [0, 3]) (.seq (.seq (.reg r2 [0, 3, 13]) (.cond (.t 13) (.reg r3 [0, 3]) (.skip))) (.seq (.seq (.reg r4 [0, 3, 4]) (.block 0 (.loop [0, 3, 4] l1))) (.seq (.seq (.reg r9 [43]) (.cond (.t 43) (.seq (.reg r10 [2]) (.ret)) (.skip))) (.seq (.reg r11 [2]) (.ret))))))
def fn : AFun := ⟨[.val], 44, [.tmp 2], [], body⟩
end hallmarkref03_Number
namespace tens_Cmp
def r0 : List AO := [⟨some 4, .asg (.v (.int .i64 0)), none⟩,
  ⟨some 5, .asg (.v (.int .i64 0)), none⟩]
def r1 : List AO := [⟨some 10, .mv (.t 0), none⟩,
  ⟨some 11, .call .deep (.v (.clo F.tens_Formed [] [])) [.t 10], none⟩,
  ⟨some 12, .un .not (.t 11), none⟩,
  ⟨some 13, .mv (.t 12), none⟩,
  ⟨some 14, .mv (.t 1), some (13, false)⟩,
  ⟨some 15, .call .deep (.v (.clo F.tens_Formed [] [])) [.t 14], some (13, false)⟩,
  ⟨some 16, .un .not (.t 15), some (13, false)⟩,
  ⟨some 17, .pick (.t 13) (.v (.bool true)) (.t 16), none⟩]
def r2 : List AO := [⟨some 4, .asg (.v (.int .i64 0)), none⟩,
  ⟨some 5, .asg (.v (.int .i64 1)), none⟩]
def r3 : List AO := [⟨some 19, .mv (.t 0), none⟩,
  ⟨some 20, .call .deep (.v (.clo F.tens_split [] [])) [.t 19], none⟩,
  ⟨some 18, .mv (.t 20), none⟩,
  ⟨some 21, .ext (.t 18) 0, none⟩,
  ⟨some 22, .ext (.t 18) 1, none⟩,
  ⟨some 6, .asg (.t 21), none⟩,
  ⟨some 7, .asg (.t 22), none⟩]
def r4 : List AO := [⟨some 24, .mv (.t 1), none⟩,
  ⟨some 25, .call .deep (.v (.clo F.tens_split [] [])) [.t 24], none⟩,
  ⟨some 23, .mv (.t 25), none⟩,
  ⟨some 26, .ext (.t 23) 0, none⟩,
  ⟨some 27, .ext (.t 23) 1, none⟩,
  ⟨some 8, .asg (.t 26), none⟩,
  ⟨some 9, .asg (.t 27), none⟩]
def r5 : List AO := [⟨some 29, .mv (.t 6), none⟩,
  ⟨some 30, .mv (.t 29), none⟩,
  ⟨some 31, .mv (.t 8), some (30, true)⟩,
  ⟨some 32, .pick (.t 30) (.t 31) (.v (.bool false)), none⟩,
  ⟨some 28, .asg (.t 32), none⟩]
def r6 : List AO := [⟨some 33, .mv (.t 9), none⟩,
  ⟨some 34, .mv (.t 7), none⟩,
  ⟨some 35, .call .deep (.v (.clo F.tens_size [] [])) [.t 33, .t 34], none⟩,
  ⟨some 4, .asg (.t 35), none⟩,
  ⟨some 5, .asg (.v (.int .i64 0)), none⟩]
def r7 : List AO := [⟨some 37, .mv (.t 6), none⟩,
  ⟨some 36, .asg (.t 37), none⟩]
def r8 : List AO := [⟨some 4, .asg (.v (.int .i64 (-1))), none⟩,
  ⟨some 5, .asg (.v (.int .i64 0)), none⟩]
def r9 : List AO := [⟨some 39, .mv (.t 8), none⟩,
  ⟨some 38, .asg (.t 39), none⟩]
def r10 : List AO := [⟨some 4, .asg (.v (.int .i64 1)), none⟩,
  ⟨some 5, .asg (.v (.int .i64 0)), none⟩]
def r11 : List AO := [⟨some 40, .mv (.t 7), none⟩,
  ⟨some 41, .mv (.t 9), none⟩,
  ⟨some 42, .call .deep (.v (.clo F.tens_size [] [])) [.t 40, .t 41], none⟩,
  ⟨some 4, .asg (.t 42), none⟩,
  ⟨some 5, .asg (.v (.int .i64 0)), none⟩]
def body : AC := .seq (.reg r0 [0, 1]) (.seq (.seq (.reg r1 [0, 1, 17]) (.cond (.t 17) (.seq (.reg r2 [4, 5]) (.ret)) (.skip))) (.seq (.reg r3 [1, 6, 7]) (.seq (.reg r4 [6, 7, 8, 9]) (.seq (.block 0 (.seq (.reg r5 [6, 7, 8, 9, 28]) (.cond (.t 28) (.seq (.reg r6 [4, 5]) (.ret)) (.seq (.reg r7 [7, 8, 9, 36]) (.cond (.t 36) (.seq (.reg r8 [4, 5]) (.ret)) (.seq (.reg r9 [7, 9, 38]) (.cond (.t 38) (.seq (.reg r10 [4, 5]) (.ret)) (.skip)))))))) (.seq (.reg r11 [4, 5]) (.ret))))))
def fn : AFun := ⟨[.val, .val], 43, [.tmp 4, .tmp 5], [], body⟩
end tens_Cmp
namespace tens_Formed
def r0 : List AO := [⟨some 2, .asg (.v (.bool false)), none⟩]
def r1 : List AO := [⟨some 4, .mv (.t 0), none⟩,
  ⟨some 5, .bin .eql (.t 4) (.v (.str [48])), none⟩]
def r2 : List AO := [⟨some 2, .asg (.v (.bool true)), none⟩]
def r3 : List AO := [⟨some 6, .mv (.t 0), none⟩,
  ⟨some 7, .bin .neq (.t 6) (.v (.str [])), none⟩,
  ⟨some 8, .mv (.t 7), none⟩,
  ⟨some 9, .mv (.t 0), some (8, true)⟩,
  ⟨some 10, .idxS (.t 9) (.v (.int .i64 0)), some (8, true)⟩,
  ⟨some 11, .bin .eql (.t 10) (.v (.int .u8 45)), some (8, true)⟩,
  ⟨some 12, .pick (.t 8) (.t 11) (.v (.bool false)), none⟩]
def r4 : List AO := [⟨some 13, .mv (.t 0), none⟩,
  ⟨some 14, .slc true 1 (.t 13) (some (.v (.int .i64 1))) none, none⟩,
  ⟨some 0, .asg (.t 14), none⟩]
def r5 : List AO := [⟨some 15, .mv (.t 0), none⟩,
  ⟨some 16, .bin .eql (.t 15) (.v (.str [])), none⟩,
  ⟨some 17, .mv (.t 16), none⟩,
  ⟨some 18, .mv (.t 0), some (17, false)⟩,
  ⟨some 19, .idxS (.t 18) (.v (.int .i64 0)), some (17, false)⟩,
  ⟨some 20, .bin .eql (.t 19) (.v (.int .u8 48)), some (17, false)⟩,
  ⟨some 21, .pick (.t 17) (.v (.bool true)) (.t 20), none⟩]
def r6 : List AO := [⟨some 2, .asg (.v (.bool false)), none⟩]
def r7 : List AO := [⟨some 22, .mv (.t 0), none⟩,
  ⟨some 23, .len true (.t 22), none⟩,
  ⟨some 24, .mv (.v (.int .i64 0)), none⟩]
def r8 : List AO := [⟨some 25, .bin .lss (.t 24) (.t 23), none⟩]
def r9 : List AO := [⟨some 26, .mv (.t 24), none⟩,
  ⟨some 3, .asg (.t 26), none⟩]
def r10 : List AO := [⟨some 27, .mv (.t 0), none⟩,
  ⟨some 28, .mv (.t 3), none⟩,
  ⟨some 29, .idxS (.t 27) (.t 28), none⟩,
  ⟨some 30, .bin .lss (.t 29) (.v (.int .u8 48)), none⟩,
  ⟨some 31, .mv (.t 30), none⟩,
  ⟨some 32, .mv (.t 0), some (31, false)⟩,
  ⟨some 33, .mv (.t 3), some (31, false)⟩,
  ⟨some 34, .idxS (.t 32) (.t 33), some (31, false)⟩,
  ⟨some 35, .bin .gtr (.t 34) (.v (.int .u8 57)), some (31, false)⟩,
  ⟨some 36, .pick (.t 31) (.v (.bool true)) (.t 35), none⟩]
def r11 : List AO := [⟨some 2, .asg (.v (.bool false)), none⟩]
def r12 : List AO := [⟨some 37, .bin .add (.t 24) (.v (.int .i64 1)), none⟩,
  ⟨some 24, .mv (.t 37), none⟩]
def l1 : AC := .seq (.reg r8 [0, 23, 24, 25]) (.seq (.cond (.t 25) (.skip) (.exit 0)) (.seq (.block 1 (.seq (.reg r9 [0, 3, 23, 24]) (.seq (.reg r10 [0, 23, 24, 36]) (.cond (.t 36) (.seq (.reg r11 [2]) (.ret)) (.skip))))) (.reg r12 [0, 23, 24])))
def r13 : List AO := [⟨some 2, .asg (.v (.bool true)), none⟩]
def body : AC := .seq (.reg r0 [0]) (.seq (.seq (.reg r1 [0, 5]) (.cond (.t 5) (.seq (.reg r2 [2]) (.ret)) (.skip))) (.seq (.seq (.reg r3 [0, 12]) (.cond (.t 12) (.reg r4 [0]) (.skip))) (.seq (.seq (.reg r5 [0, 21]) (.cond (.t 21) (.seq (.reg r6 [2]) (.ret)) (.skip))) (.seq (.seq (.reg r7 [0, 23, 24]) (.block 0 (.loop [0, 23, 24] l1))) (.seq (.reg r13 [2]) (.ret))))))
def fn : AFun := ⟨[.val], 38, [.tmp 2], [], body⟩
end tens_Formed
namespace tens_split
def r0 : List AO := [⟨some 2, .asg (.v (.bool false)), none⟩,
  ⟨some 3, .asg (.v (.str [])), none⟩]
def r1 : List AO := [⟨some 4, .mv (.t 0), none⟩,
  ⟨some 5, .idxS (.t 4) (.v (.int .i64 0)), none⟩,
  ⟨some 6, .bin .eql (.t 5) (.v (.int .u8 45)), none⟩]
def r2 : List Ph := [.bag false [] [0] [(0, ⟨some 7, .mv (.t 0), none⟩),
    (1, ⟨some 8, .slc true 1 (.t 7) (some (.v (.int .i64 1))) none, none⟩),
    (2, ⟨some 2, .asg (.v (.bool true)), none⟩),
    (3, ⟨some 3, .asg (.t 8), none⟩)]]
def r3 : List AO := [⟨some 9, .mv (.t 0), none⟩,
  ⟨some 2, .asg (.v (.bool false)), none⟩,
  ⟨some 3, .asg (.t 9), none⟩]
def body : AC := .seq (.reg r0 [0]) (.seq (.seq (.reg r1 [0, 6]) (.cond (.t 6) (.seq (.dreg r2 [2, 3]) (.ret)) (.skip))) (.seq (.reg r3 [2, 3]) (.ret)))
def fn : AFun := ⟨[.val], 10, [.tmp 2, .tmp 3], [], body⟩
end tens_split
namespace tens_size
def r0 : List AO := [⟨some 4, .asg (.v (.int .i64 0)), none⟩]
def r1 : List AO := [⟨some 6, .mv (.t 0), none⟩,
  ⟨some 7, .len true (.t 6), none⟩,
  ⟨some 8, .mv (.t 1), none⟩,
  ⟨some 9, .len true (.t 8), none⟩,
  ⟨some 10, .bin .neq (.t 7) (.t 9), none⟩,
  ⟨some 5, .asg (.t 10), none⟩]
def r2 : List AO := [⟨some 11, .mv (.t 0), none⟩,
  ⟨some 12, .len true (.t 11), none⟩,
  ⟨some 13, .mv (.t 1), none⟩,
  ⟨some 14, .len true (.t 13), none⟩,
  ⟨some 15, .bin .sub (.t 12) (.t 14), none⟩,
  ⟨some 16, .mm true [.t 15, .v (.int .i64 (-1))], none⟩,
  ⟨some 17, .mm false [.t 16, .v (.int .i64 1)], none⟩,
  ⟨some 4, .asg (.t 17), none⟩]
def r3 : List AO := [⟨some 19, .mv (.t 0), none⟩,
  ⟨some 20, .mv (.t 1), none⟩,
  ⟨some 21, .bin .lss (.t 19) (.t 20), none⟩,
  ⟨some 18, .asg (.t 21), none⟩]
def r4 : List AO := [⟨some 4, .asg (.v (.int .i64 (-1))), none⟩]
def r5 : List AO := [⟨some 23, .mv (.t 0), none⟩,
  ⟨some 24, .mv (.t 1), none⟩,
  ⟨some 25, .bin .gtr (.t 23) (.t 24), none⟩,
  ⟨some 22, .asg (.t 25), none⟩]
def r6 : List AO := [⟨some 4, .asg (.v (.int .i64 1)), none⟩]
def r7 : List AO := [⟨some 4, .asg (.v (.int .i64 0)), none⟩]
def body : AC := .seq (.reg r0 [0, 1]) (.seq (.block 0 (.seq (.reg r1 [0, 1, 5]) (.cond (.t 5) (.seq (.reg r2 [4]) (.ret)) (.seq (.reg r3 [0, 1, 18]) (.cond (.t 18) (.seq (.reg r4 [4]) (.ret)) (.seq (.reg r5 [22]) (.cond (.t 22) (.seq (.reg r6 [4]) (.ret)) (.skip)))))))) (.seq (.reg r7 [4]) (.ret)))
def fn : AFun := ⟨[.val, .val], 26, [.tmp 4], [], body⟩
end tens_size
namespace hallmarkref03_Numbers
def r0 : List AO := [⟨some 4, .asg (.v (.int .i64 0)), none⟩]
def r1 : List AO := [⟨some 7, .mv (.t 0), none⟩,
  ⟨some 8, .idxS (.t 7) (.v (.int .i64 0)), none⟩,
  ⟨some 9, .bin .eql (.t 8) (.v (.int .u8 45)), none⟩,
  ⟨some 5, .asg (.t 9), none⟩]
def r2 : List AO := [⟨some 10, .mv (.t 1), none⟩,
  ⟨some 11, .idxS (.t 10) (.v (.int .i64 0)), none⟩,
  ⟨some 12, .bin .eql (.t 11) (.v (.int .u8 45)), none⟩,
  ⟨some 6, .asg (.t 12), none⟩]
def r3 : List AO := [⟨some 13, .mv (.t 5), none⟩,
  ⟨some 14, .mv (.t 13), none⟩,
  ⟨some 15, .mv (.t 6), some (14, true)⟩,
  ⟨some 16, .un .not (.t 15), some (14, true)⟩,
  ⟨some 17, .pick (.t 14) (.t 16) (.v (.bool false)), none⟩]
def r4 : List AO := [⟨some 4, .asg (.v (.int .i64 (-1))), none⟩]
def r5 : List AO := [⟨some 18, .mv (.t 6), none⟩,
  ⟨some 19, .mv (.t 18), none⟩,
  ⟨some 20, .mv (.t 5), some (19, true)⟩,
  ⟨some 21, .un .not (.t 20), some (19, true)⟩,
  ⟨some 22, .pick (.t 19) (.t 21) (.v (.bool false)), none⟩]
def r6 : List AO := [⟨some 4, .asg (.v (.int .i64 1)), none⟩]
def r7 : List AO := [⟨some 23, .mv (.t 5), none⟩]
def r8 : List Ph := [.bag false [] [0, 1] [(0, ⟨some 24, .mv (.t 1), none⟩),
    (1, ⟨some 25, .slc true 1 (.t 24) (some (.v (.int .i64 1))) none, none⟩),
    (2, ⟨some 26, .mv (.t 0), none⟩),
    (3, ⟨some 27, .slc true 1 (.t 26) (some (.v (.int .i64 1))) none, none⟩),
    (4, ⟨some 28, .call .deep (.v (.clo F.hallmarkref03_Numbers [] [])) [.t 25, .t 27], none⟩),
    (5, ⟨some 4, .asg (.t 28), none⟩)]]
def r9 : List AO := [⟨some 29, .mv (.t 0), none⟩,
  ⟨some 30, .len true (.t 29), none⟩,
  ⟨some 31, .mv (.t 1), none⟩,
  ⟨some 32, .len true (.t 31), none⟩,
  ⟨some 33, .bin .neq (.t 30) (.t 32), none⟩]
def r10 : List AO := [⟨some 34, .mv (.t 0), none⟩,
  ⟨some 35, .len true (.t 34), none⟩,
  ⟨some 36, .mv (.t 1), none⟩,
  ⟨some 37, .len true (.t 36), none⟩,
  ⟨some 38, .bin .lss (.t 35) (.t 37), none⟩]
def r11 : List AO := [⟨some 4, .asg (.v (.int .i64 (-1))), none⟩]
def r12 : List AO := [⟨some 4, .asg (.v (.int .i64 1)), none⟩]
def r13 : List AO := [⟨some 39, .mv (.t 0), none⟩,
  ⟨some 40, .mv (.t 1), none⟩,
  ⟨some 41, .call .deep (.v (.clo F.hallmarkref03_Texts [] [])) [.t 39, .t 40], none⟩,
  ⟨some 4, .asg (.t 41), none⟩]
def body : AC := .seq (.reg r0 [0, 1]) (.seq (.reg r1 [0, 1, 5]) (.seq (.reg r2 [0, 1, 5, 6]) (.seq (.seq (.reg r3 [0, 1, 5, 6, 17]) (.cond (.t 17) (.seq (.reg r4 [4]) (.ret)) (.skip))) (.seq (.seq (.reg r5 [0, 1, 5, 22]) (.cond (.t 22) (.seq (.reg r6 [4]) (.ret)) (.skip))) (.seq (.seq (.reg r7 [0, 1, 23]) (.cond (.t 23) (.seq (.dreg r8 [4]) (.ret)) (.skip))) (.seq (.seq (.reg r9 [0, 1, 33]) (.cond (.t 33) (.seq (.seq (.reg r10 [38]) (.cond (.t 38) (.seq (.reg r11 [4]) (.ret)) (.skip))) (.seq (.reg r12 [4]) (.ret))) (.skip))) (.seq (.reg r13 [4]) (.ret))))))))
def fn : AFun := ⟨[.val, .val], 42, [.tmp 4], [], body⟩
end hallmarkref03_Numbers
namespace hallmarkref03_Texts
def r0 : List AO := [⟨some 4, .asg (.v (.int .i64 0)), none⟩]
def r1 : List AO := [⟨some 5, .mv (.t 0), none⟩,
  ⟨some 6, .mv (.t 1), none⟩,
  ⟨some 7, .bin .lss (.t 5) (.t 6), none⟩]
def r2 : List AO := [⟨some 4, .asg (.v (.int .i64 (-1))), none⟩]
def r3 : List AO := [⟨some 8, .mv (.t 0), none⟩,
  ⟨some 9, .mv (.t 1), none⟩,
  ⟨some 10, .bin .gtr (.t 8) (.t 9), none⟩]
def r4 : List AO := [⟨some 4, .asg (.v (.int .i64 1)), none⟩]
def r5 : List AO := [⟨some 4, .asg (.v (.int .i64 0)), none⟩]
def body : AC := .seq (.reg r0 [0, 1]) (.seq (.seq (.reg r1 [0, 1, 7]) (.cond (.t 7) (.seq (.reg r2 [4]) (.ret)) (.skip))) (.seq (.seq (.reg r3 [10]) (.cond (.t 10) (.seq (.reg r4 [4]) (.ret)) (.skip))) (.seq (.reg r5 [4]) (.ret))))
def fn : AFun := ⟨[.val, .val], 11, [.tmp 4], [], body⟩
end hallmarkref03_Texts
namespace hallmarkref09_InSpan
def r0 : List AO := [⟨some 3, .box (.t 1), none⟩,
  ⟨some 4, .asg (.v (.bool false)), none⟩]
def r1 : List AO := [⟨some 5, .fadr 0 (.t 3), none⟩,
  ⟨some 6, .load 1 false (.t 5), none⟩,
  ⟨some 7, .bin .neq (.t 6) (.v (.str [])), none⟩,
  ⟨some 8, .mv (.t 7), none⟩,
  ⟨some 9, .mv (.t 0), some (8, true)⟩,
  ⟨some 10, .fadr 0 (.t 3), some (8, true)⟩,
  ⟨some 11, .load 1 false (.t 10), some (8, true)⟩,
  ⟨some 12, .call .deep (.v (.clo F.hallmarkref03_Numbers [] [])) [.t 9, .t 11], some (8, true)⟩,
  ⟨some 13, .bin .lss (.t 12) (.v (.int .i64 0)), some (8, true)⟩,
  ⟨some 14, .pick (.t 8) (.t 13) (.v (.bool false)), none⟩]
def r2 : List AO := [⟨some 4, .asg (.v (.bool false)), none⟩]
def r3 : List AO := [⟨some 15, .fadr 1 (.t 3), none⟩,
  ⟨some 16, .load 1 false (.t 15), none⟩,
  ⟨some 17, .bin .eql (.t 16) (.v (.str [])), none⟩,
  ⟨some 18, .mv (.t 17), none⟩,
  ⟨some 19, .mv (.t 0), some (18, false)⟩,
  ⟨some 20, .fadr 1 (.t 3), some (18, false)⟩,
  ⟨some 21, .load 1 false (.t 20), some (18, false)⟩,
  ⟨some 22, .call .deep (.v (.clo F.hallmarkref03_Numbers [] [])) [.t 19, .t 21], some (18, false)⟩,
  ⟨some 23, .bin .leq (.t 22) (.v (.int .i64 0)), some (18, false)⟩,
  ⟨some 24, .pick (.t 18) (.v (.bool true)) (.t 23), none⟩,
  ⟨some 4, .asg (.t 24), none⟩]
def body : AC := .seq (.reg r0 [0, 3]) (.seq (.seq (.reg r1 [0, 3, 14]) (.cond (.t 14) (.seq (.reg r2 [4]) (.ret)) (.skip))) (.seq (.reg r3 [4]) (.ret)))
def fn : AFun := ⟨[.val, .val], 25, [.tmp 4], [], body⟩
end hallmarkref09_InSpan
namespace hallmarklaw12_BelowSpans
def r0 : List AO := [⟨some 3, .box (.t 0), none⟩,
  ⟨some 4, .box (.t 1), none⟩,
  ⟨some 6, .asg (.v (.bool false)), none⟩]
def r1 : List AO := [⟨some 8, .build [.av (.str []), .av (.str [])] [(0, 1, .v (.str [51])), (1, 1, .v (.str [53]))], none⟩,
  ⟨some 9, .build [.av (.str []), .av (.str [])] [(1, 1, .v (.str [53]))], none⟩,
  ⟨some 10, .call .deep (.v (.clo F.below_Span [] [])) [.t 8, .t 9], none⟩,
  ⟨some 11, .un .not (.t 10), none⟩,
  ⟨some 12, .mv (.t 11), none⟩,
  ⟨some 13, .build [.av (.str []), .av (.str [])] [], some (12, false)⟩,
  ⟨some 14, .build [.av (.str []), .av (.str [])] [(1, 1, .v (.str [53]))], some (12, false)⟩,
  ⟨some 15, .call .deep (.v (.clo F.below_Span [] [])) [.t 13, .t 14], some (12, false)⟩,
  ⟨some 16, .pick (.t 12) (.v (.bool true)) (.t 15), none⟩]
def r2 : List AO := [⟨some 6, .asg (.v (.bool false)), none⟩]
def r3 : List AO := [⟨some 17, .load 2 true (.t 3), none⟩,
  ⟨some 18, .call .deep (.v (.clo F.hallmarklaw12_bounds [] [])) [.t 17], none⟩,
  ⟨some 19, .un .not (.t 18), none⟩,
  ⟨some 20, .mv (.t 19), none⟩,
  ⟨some 21, .load 2 true (.t 4), some (20, false)⟩,
  ⟨some 22, .call .deep (.v (.clo F.hallmarklaw12_bounds [] [])) [.t 21], some (20, false)⟩,
  ⟨some 23, .un .not (.t 22), some (20, false)⟩,
  ⟨some 24, .pick (.t 20) (.v (.bool true)) (.t 23), none⟩]
def r4 : List AO := [⟨some 6, .asg (.v (.bool true)), none⟩]
def r5 : List AO := [⟨some 25, .load 2 true (.t 3), none⟩,
  ⟨some 26, .load 2 true (.t 4), none⟩,
  ⟨some 27, .call .deep (.v (.clo F.below_Span [] [])) [.t 25, .t 26], none⟩,
  ⟨some 7, .asg (.t 27), none⟩]
def r6 : List AO := [⟨some 28, .mv (.t 7), none⟩,
  ⟨some 29, .load 2 true (.t 3), none⟩,
  ⟨some 30, .load 2 true (.t 4), none⟩,
  ⟨some 31, .call .deep (.v (.clo F.hallmarkref12_Span [] [])) [.t 29, .t 30], none⟩,
  ⟨some 32, .binB true (.t 28) (.t 31), none⟩]
def r7 : List AO := [⟨some 6, .asg (.v (.bool false)), none⟩]
def r8 : List AO := [⟨some 33, .mv (.t 2), none⟩,
  ⟨some 34, .call .deep (.v (.clo F.hallmarkref03_Number [] [])) [.t 33], none⟩,
  ⟨some 35, .un .not (.t 34), none⟩,
  ⟨some 36, .mv (.t 35), none⟩,
  ⟨some 37, .mv (.t 7), some (36, false)⟩,
  ⟨some 38, .un .not (.t 37), some (36, false)⟩,
  ⟨some 39, .pick (.t 36) (.v (.bool true)) (.t 38), none⟩,
  ⟨some 40, .mv (.t 39), none⟩,
  ⟨some 41, .mv (.t 2), some (40, false)⟩,
  ⟨some 42, .take 2 true (.t 3), some (40, false)⟩,
  ⟨some 43, .call .deep (.v (.clo F.hallmarkref09_InSpan [] [])) [.t 41, .t 42], some (40, false)⟩,
  ⟨some 44, .un .not (.t 43), some (40, false)⟩,
  ⟨some 45, .pick (.t 40) (.v (.bool true)) (.t 44), none⟩]
def r9 : List AO := [⟨some 6, .asg (.v (.bool true)), none⟩]
def r10 : List AO := [⟨some 46, .mv (.t 2), none⟩,
  ⟨some 47, .take 2 true (.t 4), none⟩,
  ⟨some 48, .call .deep (.v (.clo F.hallmarkref09_InSpan [] [])) [.t 46, .t 47], none⟩,
  ⟨some 6, .asg (.t 48), none⟩]
def body : AC := .seq (.reg r0 [2, 3, 4]) (.seq (.seq (.reg r1 [2, 3, 4, 16]) (.cond (.t 16) (.seq (.reg r2 [6]) (.ret)) (.skip))) (.seq (.seq (.reg r3 [2, 3, 4, 24]) (.cond (.t 24) (.seq (.reg r4 [6]) (.ret)) (.skip))) (.seq (.reg r5 [2, 3, 4, 7]) (.seq (.seq (.reg r6 [2, 3, 4, 7, 32]) (.cond (.t 32) (.seq (.reg r7 [6]) (.ret)) (.skip))) (.seq (.seq (.reg r8 [2, 4, 45]) (.cond (.t 45) (.seq (.reg r9 [6]) (.ret)) (.skip))) (.seq (.reg r10 [6]) (.ret)))))))
def fn : AFun := ⟨[.val, .val, .val], 49, [.tmp 6], [], body⟩
end hallmarklaw12_BelowSpans
namespace below_Span
def r0 : List AO := [⟨some 2, .box (.t 0), none⟩,
  ⟨some 3, .box (.t 1), none⟩,
  ⟨some 4, .asg (.v (.bool false)), none⟩]
def r1 : List AO := [⟨some 6, .load 2 true (.t 2), none⟩,
  ⟨some 7, .call .deep (.v (.clo F.below_hollow [] [])) [.t 6], none⟩]
def r2 : List AO := [⟨some 4, .asg (.v (.bool true)), none⟩]
def r3 : List AO := [⟨some 8, .fadr 0 (.t 3), none⟩,
  ⟨some 9, .load 1 false (.t 8), none⟩,
  ⟨some 10, .bin .eql (.t 9) (.v (.str [])), none⟩,
  ⟨some 11, .mv (.t 10), none⟩,
  ⟨some 12, .fadr 0 (.t 2), some (11, false)⟩,
  ⟨some 13, .load 1 false (.t 12), some (11, false)⟩,
  ⟨some 14, .bin .neq (.t 13) (.v (.str [])), some (11, false)⟩,
  ⟨some 15, .mv (.t 14), some (11, false)⟩,
  ⟨some 16, .fadr 0 (.t 3), some (15, true)⟩,
  ⟨some 17, .load 1 false (.t 16), some (15, true)⟩,
  ⟨some 18, .fadr 0 (.t 2), some (15, true)⟩,
  ⟨some 19, .load 1 false (.t 18), some (15, true)⟩,
  ⟨some 20, .call .deep (.v (.clo F.below_worth [] [])) [.t 17, .t 19], some (15, true)⟩,
  ⟨some 21, .bin .leq (.t 20) (.v (.int .i64 0)), some (15, true)⟩,
  ⟨some 22, .pick (.t 15) (.t 21) (.v (.bool false)), some (11, false)⟩,
  ⟨some 23, .pick (.t 11) (.v (.bool true)) (.t 22), none⟩,
  ⟨some 5, .asg (.t 23), none⟩]
def r4 : List AO := [⟨some 24, .mv (.t 5), none⟩,
  ⟨some 25, .mv (.t 24), none⟩,
  ⟨some 26, .fadr 1 (.t 3), some (25, true)⟩,
  ⟨some 27, .load 1 false (.t 26), some (25, true)⟩,
  ⟨some 28, .bin .eql (.t 27) (.v (.str [])), some (25, true)⟩,
  ⟨some 29, .mv (.t 28), some (25, true)⟩,
  ⟨some 30, .fadr 1 (.t 2), some (29, false)⟩,
  ⟨some 31, .load 1 false (.t 30), some (29, false)⟩,
  ⟨some 32, .bin .neq (.t 31) (.v (.str [])), some (29, false)⟩,
  ⟨some 33, .mv (.t 32), some (29, false)⟩,
  ⟨some 34, .fadr 1 (.t 2), some (33, true)⟩,
  ⟨some 35, .load 1 false (.t 34), some (33, true)⟩,
  ⟨some 36, .fadr 1 (.t 3), some (33, true)⟩,
  ⟨some 37, .load 1 false (.t 36), some (33, true)⟩,
  ⟨some 38, .call .deep (.v (.clo F.below_worth [] [])) [.t 35, .t 37], some (33, true)⟩,
  ⟨some 39, .bin .leq (.t 38) (.v (.int .i64 0)), some (33, true)⟩,
  ⟨some 40, .pick (.t 33) (.t 39) (.v (.bool false)), some (29, false)⟩,
  ⟨some 41, .pick (.t 29) (.v (.bool true)) (.t 40), some (25, true)⟩,
  ⟨some 42, .pick (.t 25) (.t 41) (.v (.bool false)), none⟩,
  ⟨some 4, .asg (.t 42), none⟩]
def body : AC := .seq (.reg r0 [2, 3]) (.seq (.seq (.reg r1 [2, 3, 7]) (.cond (.t 7) (.seq (.reg r2 [4]) (.ret)) (.skip))) (.seq (.reg r3 [2, 3, 5]) (.seq (.reg r4 [4]) (.ret))))
def fn : AFun := ⟨[.val, .val], 43, [.tmp 4], [], body⟩
end below_Span
namespace hallmarklaw12_bounds
def r0 : List AO := [⟨some 1, .box (.t 0), none⟩,
  ⟨some 2, .asg (.v (.bool false)), none⟩]
def r1 : List AO := [⟨some 3, .fadr 0 (.t 1), none⟩,
  ⟨some 4, .load 1 false (.t 3), none⟩,
  ⟨some 5, .bin .eql (.t 4) (.v (.str [])), none⟩,
  ⟨some 6, .mv (.t 5), none⟩,
  ⟨some 7, .fadr 0 (.t 1), some (6, false)⟩,
  ⟨some 8, .load 1 false (.t 7), some (6, false)⟩,
  ⟨some 9, .call .deep (.v (.clo F.hallmarkref03_Number [] [])) [.t 8], some (6, false)⟩,
  ⟨some 10, .pick (.t 6) (.v (.bool true)) (.t 9), none⟩,
  ⟨some 11, .mv (.t 10), none⟩,
  ⟨some 12, .fadr 1 (.t 1), some (11, true)⟩,
  ⟨some 13, .load 1 false (.t 12), some (11, true)⟩,
  ⟨some 14, .bin .eql (.t 13) (.v (.str [])), some (11, true)⟩,
  ⟨some 15, .mv (.t 14), some (11, true)⟩,
  ⟨some 16, .fadr 1 (.t 1), some (15, false)⟩,
  ⟨some 17, .load 1 false (.t 16), some (15, false)⟩,
  ⟨some 18, .call .deep (.v (.clo F.hallmarkref03_Number [] [])) [.t 17], some (15, false)⟩,
  ⟨some 19, .pick (.t 15) (.v (.bool true)) (.t 18), some (11, true)⟩,
  ⟨some 20, .pick (.t 11) (.t 19) (.v (.bool false)), none⟩,
  ⟨some 2, .asg (.t 20), none⟩]
def body : AC := .seq (.reg r0 [1]) (.seq (.reg r1 [2]) (.ret))
def fn : AFun := ⟨[.val], 21, [.tmp 2], [], body⟩
end hallmarklaw12_bounds
namespace hallmarkref12_Span
def r0 : List AO := [⟨some 2, .box (.t 0), none⟩,
  ⟨some 3, .box (.t 1), none⟩,
  ⟨some 4, .asg (.v (.bool false)), none⟩]
def r1 : List AO := [⟨some 5, .load 2 true (.t 2), none⟩,
  ⟨some 6, .call .deep (.v (.clo F.hallmarkref12_Hollow [] [])) [.t 5], none⟩]
def r2 : List AO := [⟨some 4, .asg (.v (.bool true)), none⟩]
def r3 : List AO := [⟨some 7, .fadr 0 (.t 3), none⟩,
  ⟨some 8, .load 1 false (.t 7), none⟩,
  ⟨some 9, .bin .neq (.t 8) (.v (.str [])), none⟩,
  ⟨some 10, .mv (.t 9), none⟩,
  ⟨some 11, .fadr 0 (.t 2), some (10, true)⟩,
  ⟨some 12, .load 1 false (.t 11), some (10, true)⟩,
  ⟨some 13, .bin .eql (.t 12) (.v (.str [])), some (10, true)⟩,
  ⟨some 14, .mv (.t 13), some (10, true)⟩,
  ⟨some 15, .fadr 0 (.t 2), some (14, false)⟩,
  ⟨some 16, .load 1 false (.t 15), some (14, false)⟩,
  ⟨some 17, .fadr 0 (.t 3), some (14, false)⟩,
  ⟨some 18, .load 1 false (.t 17), some (14, false)⟩,
  ⟨some 19, .call .deep (.v (.clo F.hallmarkref03_Numbers [] [])) [.t 16, .t 18], some (14, false)⟩,
  ⟨some 20, .bin .lss (.t 19) (.v (.int .i64 0)), some (14, false)⟩,
  ⟨some 21, .pick (.t 14) (.v (.bool true)) (.t 20), some (10, true)⟩,
  ⟨some 22, .pick (.t 10) (.t 21) (.v (.bool false)), none⟩]
def r4 : List AO := [⟨some 4, .asg (.v (.bool false)), none⟩]
def r5 : List AO := [⟨some 23, .fadr 1 (.t 3), none⟩,
  ⟨some 24, .load 1 false (.t 23), none⟩,
  ⟨some 25, .bin .eql (.t 24) (.v (.str [])), none⟩,
  ⟨some 26, .mv (.t 25), none⟩,
  ⟨some 27, .fadr 1 (.t 2), some (26, false)⟩,
  ⟨some 28, .load 1 false (.t 27), some (26, false)⟩,
  ⟨some 29, .bin .neq (.t 28) (.v (.str [])), some (26, false)⟩,
  ⟨some 30, .mv (.t 29), some (26, false)⟩,
  ⟨some 31, .fadr 1 (.t 2), some (30, true)⟩,
  ⟨some 32, .load 1 false (.t 31), some (30, true)⟩,
  ⟨some 33, .fadr 1 (.t 3), some (30, true)⟩,
  ⟨some 34, .load 1 false (.t 33), some (30, true)⟩,
  ⟨some 35, .call .deep (.v (.clo F.hallmarkref03_Numbers [] [])) [.t 32, .t 34], some (30, true)⟩,
  ⟨some 36, .bin .leq (.t 35) (.v (.int .i64 0)), some (30, true)⟩,
  ⟨some 37, .pick (.t 30) (.t 36) (.v (.bool false)), some (26, false)⟩,
  ⟨some 38, .pick (.t 26) (.v (.bool true)) (.t 37), none⟩,
  ⟨some 4, .asg (.t 38), none⟩]
def body : AC := .seq (.reg r0 [2, 3]) (.seq (.seq (.reg r1 [2, 3, 6]) (.cond (.t 6) (.seq (.reg r2 [4]) (.ret)) (.skip))) (.seq (.seq (.reg r3 [2, 3, 22]) (.cond (.t 22) (.seq (.reg r4 [4]) (.ret)) (.skip))) (.seq (.reg r5 [4]) (.ret))))
def fn : AFun := ⟨[.val, .val], 39, [.tmp 4], [], body⟩
end hallmarkref12_Span
namespace below_hollow
def r0 : List AO := [⟨some 1, .box (.t 0), none⟩,
  ⟨some 2, .asg (.v (.bool false)), none⟩]
def r1 : List AO := [⟨some 3, .fadr 0 (.t 1), none⟩,
  ⟨some 4, .load 1 false (.t 3), none⟩,
  ⟨some 5, .bin .neq (.t 4) (.v (.str [])), none⟩,
  ⟨some 6, .mv (.t 5), none⟩,
  ⟨some 7, .fadr 1 (.t 1), some (6, true)⟩,
  ⟨some 8, .load 1 false (.t 7), some (6, true)⟩,
  ⟨some 9, .bin .neq (.t 8) (.v (.str [])), some (6, true)⟩,
  ⟨some 10, .pick (.t 6) (.t 9) (.v (.bool false)), none⟩,
  ⟨some 11, .mv (.t 10), none⟩,
  ⟨some 12, .fadr 0 (.t 1), some (11, true)⟩,
  ⟨some 13, .load 1 false (.t 12), some (11, true)⟩,
  ⟨some 14, .fadr 1 (.t 1), some (11, true)⟩,
  ⟨some 15, .load 1 false (.t 14), some (11, true)⟩,
  ⟨some 16, .call .deep (.v (.clo F.below_worth [] [])) [.t 13, .t 15], some (11, true)⟩,
  ⟨some 17, .bin .gtr (.t 16) (.v (.int .i64 0)), some (11, true)⟩,
  ⟨some 18, .pick (.t 11) (.t 17) (.v (.bool false)), none⟩,
  ⟨some 2, .asg (.t 18), none⟩]
def body : AC := .seq (.reg r0 [1]) (.seq (.reg r1 [2]) (.ret))
def fn : AFun := ⟨[.val], 19, [.tmp 2], [], body⟩
end below_hollow
namespace below_worth
def r0 : List AO := [⟨some 4, .asg (.v (.int .i64 0)), none⟩]
def r1 : List AO := [⟨some 8, .mv (.t 0), none⟩,
  ⟨some 9, .mv (.t 1), none⟩,
  ⟨some 10, .call .deep (.v (.clo F.tens_Cmp [] [])) [.t 8, .t 9], none⟩,
  ⟨some 7, .mv (.t 10), none⟩,
  ⟨some 11, .ext (.t 7) 0, none⟩,
  ⟨some 12, .ext (.t 7) 1, none⟩,
  ⟨some 5, .asg (.t 11), none⟩,
  ⟨some 6, .asg (.t 12), none⟩]
def r2 : List AO := [⟨some 13, .mv (.t 5), none⟩,
  ⟨some 4, .asg (.t 13), none⟩]
def body : AC := .seq (.reg r0 [0, 1]) (.seq (.reg r1 [5]) (.seq (.reg r2 [4]) (.ret)))
def fn : AFun := ⟨[.val, .val], 14, [.tmp 4], [], body⟩
end below_worth
namespace hallmarkref12_Hollow
def r0 : List AO := [⟨some 1, .box (.t 0), none⟩,
  ⟨some 2, .asg (.v (.bool false)), none⟩]
def r1 : List AO := [⟨some 3, .fadr 0 (.t 1), none⟩,
  ⟨some 4, .load 1 false (.t 3), none⟩,
  ⟨some 5, .bin .neq (.t 4) (.v (.str [])), none⟩,
  ⟨some 6, .mv (.t 5), none⟩,
  ⟨some 7, .fadr 1 (.t 1), some (6, true)⟩,
  ⟨some 8, .load 1 false (.t 7), some (6, true)⟩,
  ⟨some 9, .bin .neq (.t 8) (.v (.str [])), some (6, true)⟩,
  ⟨some 10, .pick (.t 6) (.t 9) (.v (.bool false)), none⟩,
  ⟨some 11, .mv (.t 10), none⟩,
  ⟨some 12, .fadr 0 (.t 1), some (11, true)⟩,
  ⟨some 13, .load 1 false (.t 12), some (11, true)⟩,
  ⟨some 14, .fadr 1 (.t 1), some (11, true)⟩,
  ⟨some 15, .load 1 false (.t 14), some (11, true)⟩,
  ⟨some 16, .call .deep (.v (.clo F.hallmarkref03_Numbers [] [])) [.t 13, .t 15], some (11, true)⟩,
  ⟨some 17, .bin .gtr (.t 16) (.v (.int .i64 0)), some (11, true)⟩,
  ⟨some 18, .pick (.t 11) (.t 17) (.v (.bool false)), none⟩,
  ⟨some 2, .asg (.t 18), none⟩]
def body : AC := .seq (.reg r0 [1]) (.seq (.reg r1 [2]) (.ret))
def fn : AFun := ⟨[.val], 19, [.tmp 2], [], body⟩
end hallmarkref12_Hollow
end Hm
