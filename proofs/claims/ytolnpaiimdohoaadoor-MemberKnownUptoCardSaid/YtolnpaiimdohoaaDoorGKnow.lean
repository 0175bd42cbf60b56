/- What arguments of the law are, as trees. Conditions: see each theorem. -/
import Derived.Test.YtolnpaiimdohoaaDoorHD
import Derived.Test.YtolnpaiimdohoaaDoorVKnow
set_option linter.unusedVariables false
set_option linter.unusedSimpArgs false
/- The text of the number one, by the library. Conditions: see each theorem. -/
namespace Hm
open Go
theorem meets_ito1 {P : Program} {N : Nm} {f : Nat} (h : ∀ w : World, Calls P (N.f f) #[.int .i64 1] w fun e w' => e = .returned (.string ⟨#[49]⟩) ∧ w' = w) :
    ∀ as cr, pIto1 as = some cr → Meets P N f as cr := by
  intro as cr hp
  unfold pIto1 at hp
  split at hp
  · split at hp
    · rename_i n hn
      subst hn
      simp only [Option.some.injEq] at hp
      subst hp
      intro w S vs lx A hnd hfree hlt hglob
      obtain ⟨c1, us, rfl, h1, A⟩ := A.vals_inv
      obtain ⟨rfl, rfl⟩ := A.nil_inv
      cases h1 with
      | int _ _ =>
        refine (h w).mono fun e w' ⟨he, hw⟩ => ?_
        subst hw
        exact ⟨_, S, _, [], he, left_plain (.str ⟨#[49]⟩) rfl hlt (.val .nil)⟩
    · cases hp
  · cases hp
end Hm
