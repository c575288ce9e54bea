/- The law FnExactRainbowOf answers true at every input that its guards let in. -/
import Derived.Test.YtglneifblgncaaaPFnExactRainbowOfx2
namespace Go.Proofs.Ytglneifblgncaaa.Pure
open Go.RowKit Go.Proofs.Ytglneifblgncaaa.PFnExactRainbowOf Go.Proofs.YtglneifblgncaaaW.PrintWords Go.Proofs.YtglneifblgncaaaW.PrintLast
set_option linter.unusedVariables false
set_option linter.unusedSimpArgs false

theorem in_any (a lo hi : Int) : impl_in.f a lo hi = some (decide (lo ≤ a ∧ a ≤ hi)) := by
  unfold impl_in.f
  by_cases h : lo ≤ a <;> simp [h]
theorem l1In_any (a lo hi : Int) : spec_l1In.f a lo hi = some (decide (lo ≤ a ∧ a ≤ hi)) := by
  unfold spec_l1In.f
  by_cases h : lo ≤ a
  · rw [if_pos h]; simp [h]
  · rw [if_neg h]; simp [h]

theorem FnExactRainbowOf : laws_FnExactRainbowOf.Pure := by
  intro n _
  by_cases h : 0 ≤ n ∧ n ≤ 6
  · have h7 : n = 0 ∨ n = 1 ∨ n = 2 ∨ n = 3 ∨ n = 4 ∨ n = 5 ∨ n = 6 := by omega
    rcases h7 with rfl | rfl | rfl | rfl | rfl | rfl | rfl <;> exact ⟨40, by decide +kernel⟩
  · refine ⟨5, ?_⟩
    have h1 : spec_RainbowOf.f 5 n = some ([], false) := by
      simp only [spec_RainbowOf.f, spec_ahArches.f, l1In_any, decide_eq_false h, Option.bind_some, Bool.false_eq_true, if_false]
    have h2 : ∀ k, impl_RainbowOf.f k n = some ([], false) := fun k => by
      simp only [impl_RainbowOf.f, impl_isArches.f, in_any, decide_eq_false h, Option.bind_some, Bool.false_eq_true, if_false]
    have h3 : ∀ k, laws_FnExactRainbowOf.j0 k n [] false [] false = laws_FnExactRainbowOf.j0 k n [] false [] false := fun _ => rfl
    simp only [laws_FnExactRainbowOf.f, h1, h2, Option.bind_some]
    simp only [laws_FnExactRainbowOf.j0, h2, Option.bind_some, show laws_eqIntS.f 5 [] [] = some true from by decide +kernel, show laws_eqIntS.f 4 [] [] = some true from by decide +kernel, show laws_markIntS.f 4 [] 1 = some (1, []) from by decide +kernel, show laws_heldIntS.f 4 [] 1 = some 1 from by decide +kernel, show laws_heldIntS.f 3 [] 1 = some 1 from by decide +kernel, laws_FnExactRainbowOf.j1]
    simp [laws_FnExactRainbowOf.j1, show laws_heldIntS.f 3 [] 1 = some 1 from by decide +kernel]

end Go.Proofs.Ytglneifblgncaaa.Pure
