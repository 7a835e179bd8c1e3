/- FnExactBossNew: the program's BossNew returns what the reference's returns. No conditions. This text: what is left of it without Go. -/
import Derived.Test.YtnnaeoicoghheaaPx29
namespace Go.Proofs.Ytnnaeoicoghheaa.Pure
open Go.RowKit Go.Proofs.Ytnnaeoicoghheaa.P Go.Proofs.YtnnaeoicoghheaaW.PrintWords Go.Proofs.YtnnaeoicoghheaaW.PrintLast
theorem FnExactBossNew : laws_FnExactBossNew.Pure := ⟨9, by kernel_rfl⟩
end Go.Proofs.Ytnnaeoicoghheaa.Pure
