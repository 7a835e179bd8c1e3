/- Plain laws of the checks of spans in the reference. -/
import Derived.Test.YtekmapilhomdgaaPx13
import Derived.Test.YtekmapilhomdgaaPuNum
namespace Go.Proofs.Ytekmapilhomdgaa.Pu
open Go.RowKit Go.Proofs.Ytekmapilhomdgaa.P Go.Proofs.YtekmapilhomdgaaW.PrintWords Go.Proofs.YtekmapilhomdgaaW.PrintLast
set_option linter.unusedSimpArgs false
set_option linter.unusedVariables false
theorem specSpanOk_ev (a : Bool) (l h : Int) : spec_SpanOk.f a l h = some (if a = true then isW l && isW h && decide (l ≤ h) else decide (l = 0) && decide (h = 0)) := by
  unfold spec_SpanOk.f
  simp only [l1Word_ev, Option.bind_some]
  by_cases ha : a = true
  · subst ha
    by_cases hl : isW l = true
    · by_cases hh : isW h = true
      · simp [hl, hh]
      · simp [hl, hh]
    · simp [hl]
  · simp [ha]
    by_cases h1 : l = 0 <;> by_cases h2 : h = 0 <;> simp [h1, h2]
end Go.Proofs.Ytekmapilhomdgaa.Pu
