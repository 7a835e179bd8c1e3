/- FnExactNumDo: for all arguments the program's NumDo returns what the reference's returns. No conditions. This text: what is left of it without Go. -/
import Derived.Test.YtekmapilhomdgaaPx7
import Derived.Test.YtekmapilhomdgaaPuNum
namespace Go.Proofs.Ytekmapilhomdgaa.Pure
open Go.RowKit Go.Proofs.Ytekmapilhomdgaa.P Go.Proofs.Ytekmapilhomdgaa.Pu
theorem FnExactNumDo : laws_FnExactNumDo.Pure := by
  intro op a b _ _ _
  refine ⟨1, ?_⟩
  unfold laws_FnExactNumDo.f
  rw [specNumDo_ev, implNumDo_ev]
  simp
end Go.Proofs.Ytekmapilhomdgaa.Pure
