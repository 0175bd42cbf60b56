/- What arguments of the law are, as trees. Conditions: see each theorem. -/
import Derived.Test.YtkhikkdhpidohaaHD
import Derived.Test.YtkhikkdhpidohaaVSpans
set_option linter.unusedVariables false
set_option linter.unusedSimpArgs false
/- A value that has a plain type. Conditions: none (plain lemmas). -/
namespace Hm
open Go (IntKind Lit)
theorem HasA.str_inv {σ : TS} {i : Nat} {v : AV} (h : HasA σ i v) (hi : σ.td i = some .str) : ∃ s, v = .str s := by
  cases h with
  | agg h _ => rw [hi] at h; cases h
  | one _ hc =>
    generalize hv : [v] = l at hc
    cases hc with
    | str h s => cases hv; exact ⟨s, rfl⟩
    | int h n hw => rw [hi] at h; cases h
    | bool h b => rw [hi] at h; cases h
    | slice h rows hr => rw [hi] at h; cases h
    | struct h cs _ _ => rw [hi] at h; cases h
end Hm
