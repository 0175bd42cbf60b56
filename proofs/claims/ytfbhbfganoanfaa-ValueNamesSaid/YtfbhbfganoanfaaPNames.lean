/- The cleaned code of the functions that the law reaches, printed by program. Conditions: none (definitions). -/
import Derived.Test.YtfbhbfganoanfaaHA
set_option maxRecDepth 100000
namespace Hm
namespace F
abbrev hallmarklaw03_ValueNames : Nat := 0
abbrev value_Name : Nat := 1
abbrev hallmarkref03_Name : Nat := 2
abbrev value_True : Nat := 3
end F
namespace hallmarklaw03_ValueNames
def r0 : List AO := [⟨some 3, .box (.t 1), none⟩,
  ⟨some 4, .asg (.v (.bool false)), none⟩]
def r1 : List Ph := [.bag false [] [15] [(0, ⟨some 5, .mv (.t 0), none⟩),
    (1, ⟨some 6, .call .deep (.v (.clo F.value_Name [] [])) [.t 5], none⟩),
    (2, ⟨some 7, .mv (.t 0), none⟩),
    (3, ⟨some 8, .call .deep (.v (.clo F.hallmarkref03_Name [] [])) [.t 7], none⟩),
    (4, ⟨some 9, .bin .eql (.t 6) (.t 8), none⟩),
    (5, ⟨some 10, .mv (.t 9), none⟩),
    (6, ⟨some 11, .call .deep (.v (.clo F.value_Name [] [])) [.v (.int .i64 4)], some (10, true)⟩),
    (7, ⟨some 12, .bin .eql (.t 11) (.v (.str [115, 116, 114, 105, 110, 103])), some (10, true)⟩),
    (8, ⟨some 13, .pick (.t 10) (.t 12) (.v (.bool false)), none⟩),
    (9, ⟨some 14, .mv (.t 13), none⟩),
    (10, ⟨some 15, .load 5 true (.t 3), some (14, true)⟩),
    (11, ⟨some 16, .call .deep (.v (.clo F.value_True [] [])) [.t 15], some (14, true)⟩),
    (12, ⟨some 17, .fadr 0 (.t 3), some (14, true)⟩),
    (13, ⟨some 18, .load 1 false (.t 17), some (14, true)⟩),
    (14, ⟨some 19, .bin .neq (.t 18) (.v (.int .i64 0)), some (14, true)⟩),
    (15, ⟨some 20, .mv (.t 19), some (14, true)⟩),
    (16, ⟨some 21, .fadr 0 (.t 3), some (20, true)⟩),
    (17, ⟨some 22, .load 1 false (.t 21), some (20, true)⟩),
    (18, ⟨some 23, .bin .neq (.t 22) (.v (.int .i64 1)), some (20, true)⟩),
    (19, ⟨some 24, .pick (.t 20) (.t 23) (.v (.bool false)), some (14, true)⟩),
    (20, ⟨some 25, .binB false (.t 16) (.t 24), some (14, true)⟩),
    (21, ⟨some 26, .pick (.t 14) (.t 25) (.v (.bool false)), none⟩),
    (22, ⟨some 4, .asg (.t 26), none⟩)]]
def body : AC := .seq (.reg r0 [0, 3]) (.seq (.dreg r1 [4]) (.ret))
def fn : AFun := ⟨[.val, .val], 27, [.tmp 4], [], body⟩
end hallmarklaw03_ValueNames
namespace value_Name
def r0 : List AO := [⟨some 2, .asg (.v (.str [])), none⟩]
def r1 : List AO := [⟨some 3, .mv (.t 0), none⟩]
def r2 : List AO := [⟨some 5, .bin .eql (.t 3) (.v (.int .i64 0)), none⟩,
  ⟨some 4, .asg (.t 5), none⟩]
def r3 : List AO := [⟨some 2, .asg (.v (.str [110, 117, 108, 108])), none⟩]
def r4 : List AO := [⟨some 7, .bin .eql (.t 3) (.v (.int .i64 1)), none⟩,
  ⟨some 6, .asg (.t 7), none⟩]
def r5 : List AO := [⟨some 8, .bin .eql (.t 3) (.v (.int .i64 2)), none⟩,
  ⟨some 6, .asg (.t 8), none⟩]
def r6 : List AO := [⟨some 2, .asg (.v (.str [98, 111, 111, 108, 101, 97, 110])), none⟩]
def r7 : List AO := [⟨some 10, .bin .eql (.t 3) (.v (.int .i64 3)), none⟩,
  ⟨some 9, .asg (.t 10), none⟩]
def r8 : List AO := [⟨some 2, .asg (.v (.str [110, 117, 109, 98, 101, 114])), none⟩]
def r9 : List AO := [⟨some 12, .bin .eql (.t 3) (.v (.int .i64 4)), none⟩,
  ⟨some 11, .asg (.t 12), none⟩]
def r10 : List AO := [⟨some 2, .asg (.v (.str [115, 116, 114, 105, 110, 103])), none⟩]
def r11 : List AO := [⟨some 14, .bin .eql (.t 3) (.v (.int .i64 5)), none⟩,
  ⟨some 13, .asg (.t 14), none⟩]
def r12 : List AO := [⟨some 2, .asg (.v (.str [97, 114, 114, 97, 121])), none⟩]
def r13 : List AO := [⟨some 16, .bin .eql (.t 3) (.v (.int .i64 6)), none⟩,
  ⟨some 15, .asg (.t 16), none⟩]
def r14 : List AO := [⟨some 2, .asg (.v (.str [111, 98, 106, 101, 99, 116])), none⟩]
def r15 : List AO := [⟨some 2, .asg (.v (.str [])), none⟩]
def body : AC := .seq (.reg r0 [0]) (.seq (.seq (.reg r1 [3]) (.block 0 (.seq (.reg r2 [3, 4]) (.cond (.t 4) (.seq (.reg r3 [2]) (.ret)) (.seq (.seq (.reg r4 [3, 6]) (.cond (.t 6) (.skip) (.reg r5 [3, 6]))) (.cond (.t 6) (.seq (.reg r6 [2]) (.ret)) (.seq (.reg r7 [3, 9]) (.cond (.t 9) (.seq (.reg r8 [2]) (.ret)) (.seq (.reg r9 [3, 11]) (.cond (.t 11) (.seq (.reg r10 [2]) (.ret)) (.seq (.reg r11 [3, 13]) (.cond (.t 13) (.seq (.reg r12 [2]) (.ret)) (.seq (.reg r13 [15]) (.cond (.t 15) (.seq (.reg r14 [2]) (.ret)) (.skip))))))))))))))) (.seq (.reg r15 [2]) (.ret)))
def fn : AFun := ⟨[.val], 17, [.tmp 2], [], body⟩
end value_Name
namespace hallmarkref03_Name
def r0 : List AO := [⟨some 2, .asg (.v (.str [])), none⟩]
def r1 : List AO := [⟨some 3, .mv (.t 0), none⟩,
  ⟨some 4, .bin .eql (.t 3) (.v (.int .i64 0)), none⟩]
def r2 : List AO := [⟨some 2, .asg (.v (.str [110, 117, 108, 108])), none⟩]
def r3 : List AO := [⟨some 5, .mv (.t 0), none⟩,
  ⟨some 6, .bin .eql (.t 5) (.v (.int .i64 1)), none⟩,
  ⟨some 7, .mv (.t 6), none⟩,
  ⟨some 8, .mv (.t 0), some (7, false)⟩,
  ⟨some 9, .bin .eql (.t 8) (.v (.int .i64 2)), some (7, false)⟩,
  ⟨some 10, .pick (.t 7) (.v (.bool true)) (.t 9), none⟩]
def r4 : List AO := [⟨some 2, .asg (.v (.str [98, 111, 111, 108, 101, 97, 110])), none⟩]
def r5 : List AO := [⟨some 11, .mv (.t 0), none⟩,
  ⟨some 12, .bin .eql (.t 11) (.v (.int .i64 3)), none⟩]
def r6 : List AO := [⟨some 2, .asg (.v (.str [110, 117, 109, 98, 101, 114])), none⟩]
def r7 : List AO := [⟨some 13, .mv (.t 0), none⟩,
  ⟨some 14, .bin .eql (.t 13) (.v (.int .i64 4)), none⟩]
def r8 : List AO := [⟨some 2, .asg (.v (.str [115, 116, 114, 105, 110, 103])), none⟩]
def r9 : List AO := [⟨some 15, .mv (.t 0), none⟩,
  ⟨some 16, .bin .eql (.t 15) (.v (.int .i64 5)), none⟩]
def r10 : List AO := [⟨some 2, .asg (.v (.str [97, 114, 114, 97, 121])), none⟩]
def r11 : List AO := [⟨some 17, .mv (.t 0), none⟩,
  ⟨some 18, .bin .eql (.t 17) (.v (.int .i64 6)), none⟩]
def r12 : List AO := [⟨some 2, .asg (.v (.str [111, 98, 106, 101, 99, 116])), none⟩]
def r13 : List AO := [⟨some 2, .asg (.v (.str [])), none⟩]
def body : AC := .seq (.reg r0 [0]) (.seq (.seq (.reg r1 [0, 4]) (.cond (.t 4) (.seq (.reg r2 [2]) (.ret)) (.skip))) (.seq (.seq (.reg r3 [0, 10]) (.cond (.t 10) (.seq (.reg r4 [2]) (.ret)) (.skip))) (.seq (.seq (.reg r5 [0, 12]) (.cond (.t 12) (.seq (.reg r6 [2]) (.ret)) (.skip))) (.seq (.seq (.reg r7 [0, 14]) (.cond (.t 14) (.seq (.reg r8 [2]) (.ret)) (.skip))) (.seq (.seq (.reg r9 [0, 16]) (.cond (.t 16) (.seq (.reg r10 [2]) (.ret)) (.skip))) (.seq (.seq (.reg r11 [18]) (.cond (.t 18) (.seq (.reg r12 [2]) (.ret)) (.skip))) (.seq (.reg r13 [2]) (.ret))))))))
def fn : AFun := ⟨[.val], 19, [.tmp 2], [], body⟩
end hallmarkref03_Name
namespace value_True
def r0 : List AO := [⟨some 1, .box (.t 0), none⟩,
  ⟨some 2, .asg (.v (.bool false)), none⟩]
def r1 : List AO := [⟨some 3, .fadr 0 (.t 1), none⟩,
  ⟨some 4, .load 1 false (.t 3), none⟩,
  ⟨some 5, .bin .neq (.t 4) (.v (.int .i64 0)), none⟩,
  ⟨some 6, .mv (.t 5), none⟩,
  ⟨some 7, .fadr 0 (.t 1), some (6, true)⟩,
  ⟨some 8, .load 1 false (.t 7), some (6, true)⟩,
  ⟨some 9, .bin .neq (.t 8) (.v (.int .i64 1)), some (6, true)⟩,
  ⟨some 10, .pick (.t 6) (.t 9) (.v (.bool false)), none⟩,
  ⟨some 2, .asg (.t 10), none⟩]
def body : AC := .seq (.reg r0 [1]) (.seq (.reg r1 [2]) (.ret))
def fn : AFun := ⟨[.val], 11, [.tmp 2], [], body⟩
end value_True
end Hm
