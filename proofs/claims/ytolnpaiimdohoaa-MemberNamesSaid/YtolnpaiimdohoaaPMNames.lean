/- The cleaned code of the functions that the law reaches, printed by program. Conditions: none (definitions). -/
import Derived.Test.YtolnpaiimdohoaaHA
set_option maxRecDepth 100000
namespace Hm
namespace F
abbrev hallmarklaw10_MemberNames : Nat := 506
end F
namespace hallmarklaw10_MemberNames
def r0 : List AO := [⟨some 0, .asg (.v (.bool false)), none⟩]
def r1 : List AO := [⟨some 0, .asg (.v (.bool true)), none⟩]
def body : AC := .seq (.reg r0 []) (.seq (.reg r1 [0]) (.ret))
def fn : AFun := ⟨[], 1, [.tmp 0], [], body⟩
end hallmarklaw10_MemberNames
end Hm
