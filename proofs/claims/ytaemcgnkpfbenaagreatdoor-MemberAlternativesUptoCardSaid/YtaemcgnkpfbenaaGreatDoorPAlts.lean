/- The cleaned code of the functions that the law reaches, printed by program. Conditions: none (definitions). -/
import Derived.Test.YtaemcgnkpfbenaaGreatDoorPPrtsM
set_option maxRecDepth 100000
namespace Hm
namespace F
abbrev hallmarklaw10_MemberAlternatives : Nat := 472
end F
namespace hallmarklaw10_MemberAlternatives
def r0 : List AO := [⟨some 2, .box (.t 0),none⟩,⟨some 4, .asg (.v (.bool false)),none⟩]
def r1 : List AO := [⟨some 12, .call .deep (.v (.clo F.hallmarklaw10_MemberKnown [] [])) [],none⟩,⟨some 13, .un .not (.t 12),none⟩]
def r2 : List AO := [⟨some 4, .asg (.v (.bool false)),none⟩]
def r3 : List AO := [⟨some 14, .mv (.t 1),none⟩,⟨some 15, .build [.av (.bool false), .av (.bool false), .av (.bool false), .av (.bool false), .own 2 [], .av (.bool false), .own 1 [], .own 11 [], .own 12 []] [(8, 1, .t 14)],none⟩,⟨some 5, .alloc [.av (.bool false), .av (.bool false), .av (.bool false), .av (.bool false), .own 2 [], .av (.bool false), .own 1 [], .own 11 [], .own 12 []],none⟩,⟨none, .store 9 (.t 5) (.t 15),none⟩]
def r4 : List AO := [⟨some 16, .load 5 true (.t 2),none⟩,⟨some 17, .call .deep (.v (.clo F.hallmarkref03_Formed [] [])) [.t 16],none⟩,⟨some 18, .un .not (.t 17),none⟩,⟨some 19, .mv (.t 18),none⟩,⟨some 20, .load 9 true (.t 5), some (19, false)⟩,⟨some 21, .call .deep (.v (.clo F.hallmarkref09_Formed [] [])) [.t 20], some (19, false)⟩,⟨some 22, .un .not (.t 21), some (19, false)⟩,⟨some 23, .pick (.t 19) (.v (.bool true)) (.t 22),none⟩,⟨some 24, .mv (.t 23),none⟩,⟨some 25, .mv (.t 1), some (24, false)⟩,⟨some 26, .len false (.t 25), some (24, false)⟩,⟨some 27, .bin .gtr (.t 26) (.v (.int .i64 20)), some (24, false)⟩,⟨some 28, .pick (.t 24) (.v (.bool true)) (.t 27),none⟩]
def r5 : List AO := [⟨some 4, .asg (.v (.bool true)),none⟩]
def r6 : List AO := [⟨some 6, .asg (.v (.bool false)),none⟩]
def r7 : List AO := [⟨some 7, .asg (.v (.int .i64 0)),none⟩]
def r8 : List AO := [⟨some 29, .mv (.t 7),none⟩,⟨some 30, .mv (.t 1),none⟩,⟨some 31, .len false (.t 30),none⟩,⟨some 32, .bin .lss (.t 29) (.t 31),none⟩]
def r10 : List Ph := [.bag false [] [1, 36, 37, 41, 42, 43] [(0, ⟨some 36, .load 5 true (.t 2),none⟩),(1, ⟨some 37, .mv (.t 1),none⟩),(2, ⟨some 38, .mv (.t 7),none⟩),(3, ⟨some 39, .mv (.t 7),none⟩),(4, ⟨some 40, .bin .add (.t 39) (.v (.int .i64 1)),none⟩),(5, ⟨some 41, .slc false 12 (.t 37) (some (.t 38)) (some (.t 40)),none⟩),(6, ⟨some 42, .build [.av (.bool false), .av (.bool false), .av (.bool false), .av (.bool false), .own 2 [], .av (.bool false), .own 1 [], .own 11 [], .own 12 []] [(8, 1, .t 41)],none⟩),(7, ⟨some 43, .call .deep (.v (.clo F.member_In [] [])) [.t 36, .t 42],none⟩),(8, ⟨some 35, .mv (.t 43),none⟩),(9, ⟨some 44, .ext (.t 35) 0,none⟩),(10, ⟨some 45, .ext (.t 35) 1,none⟩),(11, ⟨some 8, .asg (.t 44),none⟩),(12, ⟨some 9, .asg (.t 45),none⟩)]]
def r11 : List AO := [⟨some 46, .mv (.t 9),none⟩,⟨some 47, .bin .neq (.t 46) (.v (.int .i64 0)),none⟩]
def r12 : List AO := [⟨some 4, .asg (.v (.bool false)),none⟩]
def r13 : List AO := [⟨some 48, .mv (.t 6),none⟩,⟨some 49, .mv (.t 48),none⟩,⟨some 50, .mv (.t 8), some (49, false)⟩,⟨some 51, .pick (.t 49) (.v (.bool true)) (.t 50),none⟩,⟨some 6, .asg (.t 51),none⟩]
def r9 : List AO := [⟨some 33, .mv (.t 7),none⟩,⟨some 34, .bin .add (.t 33) (.v (.int .i64 1)),none⟩,⟨some 7, .asg (.t 34),none⟩]
def l1 : AC := .seq (.seq (.reg r8 [1, 2, 5, 6, 7, 32]) (.cond (.t 32) (.skip) (.exit 0))) (.seq (.block 1 (.seq (.dreg r10 [1, 2, 5, 6, 7, 8, 9]) (.seq (.seq (.reg r11 [1, 2, 5, 6, 7, 8, 47]) (.cond (.t 47) (.seq (.reg r12 [4]) (.ret)) (.skip))) (.reg r13 [1, 2, 5, 6, 7])))) (.reg r9 [1, 2, 5, 6, 7]))
def r14 : List AO := [⟨some 53, .take 5 true (.t 2),none⟩,⟨some 54, .take 9 true (.t 5),none⟩,⟨some 55, .call .deep (.v (.clo F.member_In [] [])) [.t 53, .t 54],none⟩,⟨some 52, .mv (.t 55),none⟩,⟨some 56, .ext (.t 52) 0,none⟩,⟨some 57, .ext (.t 52) 1,none⟩,⟨some 10, .asg (.t 56),none⟩,⟨some 11, .asg (.t 57),none⟩]
def r15 : List AO := [⟨some 58, .mv (.t 11),none⟩,⟨some 59, .bin .eql (.t 58) (.v (.int .i64 0)),none⟩,⟨some 60, .mv (.t 59),none⟩,⟨some 61, .mv (.t 10), some (60, true)⟩,⟨some 62, .mv (.t 6), some (60, true)⟩,⟨some 63, .binB false (.t 61) (.t 62), some (60, true)⟩,⟨some 64, .pick (.t 60) (.t 63) (.v (.bool false)),none⟩,⟨some 4, .asg (.t 64),none⟩]
def body : AC := .seq (.reg r0 [1, 2]) (.seq (.seq (.reg r1 [1, 2, 13]) (.cond (.t 13) (.seq (.reg r2 [4]) (.ret)) (.skip))) (.seq (.reg r3 [1, 2, 5]) (.seq (.seq (.reg r4 [1, 2, 5, 28]) (.cond (.t 28) (.seq (.reg r5 [4]) (.ret)) (.skip))) (.seq (.reg r6 [1, 2, 5, 6]) (.seq (.seq (.reg r7 [1, 2, 5, 6, 7]) (.block 0 (.loop [1, 2, 5, 6, 7] l1))) (.seq (.reg r14 [6, 10, 11]) (.seq (.reg r15 [4]) (.ret))))))))
def fn : AFun := ⟨[.val, .val], 65, [.tmp 4], [], body⟩
end hallmarklaw10_MemberAlternatives
end Hm
