/-
  No cell of these rows narrows 'for every input' (looked for: loops, veiled, ifaces, maps, wideKeys, modest, calm, conditions, laid).
  DERIVED. THE GIVEN ROWS OF THIS SEAT. 10 by the template 'for every input the law returns true; each argument reads behind the call as it read before'; 0 by the template 'total and deterministic' (their statements: YtnnaeoicoghheaaTotals.lean).
  GIVEN WITH THE SEED: the statements are not yours to turn. If you find one false, say at which input.
  Laid BY PROGRAM, IN A SANDBOX (cutbox-rows.mjs): the forced cells as the released guide's own fill.sh prints them over the translation 349cd0bea3f8b6e1… (all of the seat's roots in one cut). By AI agents, Wed Nov 11 2026. No macro, syntax, notation, axiom, sorry.
-/
import Derived.Test.YtnnaeoicoghheaaChecked
import GoSem.Claim
import GoSem.ClaimJoined
import GoSem.ClaimMapViews
import Derived.JoinedTies
import Derived.KernelRfl
namespace Go.Proofs.Ytnnaeoicoghheaa
/- THE CELL 'sum', in the pinned program and in every row, IS THE sha256 OF THE DUMP (.gsa) THAT YtnnaeoicoghheaaProg.lean LOADS. Nothing in Lean hashes anything: it is a label: what it is worth is what the hold of that sum in a sandbox is worth. -/
noncomputable def Try.pinned : Pinned := { name := "ytnnaeoicoghheaa", sum := "349cd0bea3f8b6e10e2806f8abc11baa1f9e55f42b4f299b8b12f4bf4ee991b9", checked := Try.checked }
namespace Rows
def none {H : Type} : Left H := { results := [], args := [] }

/-- 'laws.FnExactBossNew': WHATEVER THE INPUT: true; the input reads as it did. -/
def fnExactBossNewSpec : ChangeSpec := { name := "fnExactBossNew", fn := fun _ => fun
  | [] => { results := [.lit (.bool true)], args := [] }
  | _ => none }
def fnExactBossNewRow : OpenClaim := { program := "ytnnaeoicoghheaa", sum := "349cd0bea3f8b6e10e2806f8abc11baa1f9e55f42b4f299b8b12f4bf4ee991b9", func := "loop.example/gauger/laws.FnExactBossNew", spec := "fnExactBossNew", apart := false }
def FnExactBossNewSaid : Prop := fnExactBossNewRow.holds Try.pinned (OpenSpec.ofChange fnExactBossNewSpec)

/-- ITS FALSE NEIGHBOUR: 'it returns false'. Refute it at one input. -/
def fnExactBossNewWrong : ChangeSpec := { name := "fnExactBossNew", fn := fun _ => fun
  | [] => { results := [.lit (.bool false)], args := [] }
  | _ => none }
def FnExactBossNewWrongFalsely : Prop := fnExactBossNewRow.holds Try.pinned (OpenSpec.ofChange fnExactBossNewWrong)

/-- 'laws.FnExactFlowSites': WHATEVER THE INPUT: true; the input reads as it did. -/
def fnExactFlowSitesSpec : ChangeSpec := { name := "fnExactFlowSites", fn := fun _ => fun
  | [d1, d2, d3, d4] => { results := [.lit (.bool true)], args := [d1, d2, d3, d4] }
  | _ => none }
def fnExactFlowSitesRow : OpenClaim := { program := "ytnnaeoicoghheaa", sum := "349cd0bea3f8b6e10e2806f8abc11baa1f9e55f42b4f299b8b12f4bf4ee991b9", func := "loop.example/gauger/laws.FnExactFlowSites", spec := "fnExactFlowSites", unfollowed := true, recurses := true, apart := false }
def FnExactFlowSitesSaid : Prop := fnExactFlowSitesRow.holds Try.pinned (OpenSpec.ofChange fnExactFlowSitesSpec)

/-- ITS FALSE NEIGHBOUR: 'it returns false'. Refute it at one input. -/
def fnExactFlowSitesWrong : ChangeSpec := { name := "fnExactFlowSites", fn := fun _ => fun
  | [d1, d2, d3, d4] => { results := [.lit (.bool false)], args := [d1, d2, d3, d4] }
  | _ => none }
def FnExactFlowSitesWrongFalsely : Prop := fnExactFlowSitesRow.holds Try.pinned (OpenSpec.ofChange fnExactFlowSitesWrong)

/-- 'laws.FnFlowOut': WHATEVER THE INPUT: true; the input reads as it did. -/
def fnFlowOutSpec : ChangeSpec := { name := "fnFlowOut", fn := fun _ => fun
  | [d1, d2] => { results := [.lit (.bool true)], args := [d1, d2] }
  | _ => none }
def fnFlowOutRow : OpenClaim := { program := "ytnnaeoicoghheaa", sum := "349cd0bea3f8b6e10e2806f8abc11baa1f9e55f42b4f299b8b12f4bf4ee991b9", func := "loop.example/gauger/laws.FnFlowOut", spec := "fnFlowOut", unfollowed := true, recurses := true, apart := false }
def FnFlowOutSaid : Prop := fnFlowOutRow.holds Try.pinned (OpenSpec.ofChange fnFlowOutSpec)

/-- ITS FALSE NEIGHBOUR: 'it returns false'. Refute it at one input. -/
def fnFlowOutWrong : ChangeSpec := { name := "fnFlowOut", fn := fun _ => fun
  | [d1, d2] => { results := [.lit (.bool false)], args := [d1, d2] }
  | _ => none }
def FnFlowOutWrongFalsely : Prop := fnFlowOutRow.holds Try.pinned (OpenSpec.ofChange fnFlowOutWrong)

/-- 'laws.FnRunCalls': WHATEVER THE INPUT: true; the input reads as it did. -/
def fnRunCallsSpec : ChangeSpec := { name := "fnRunCalls", fn := fun _ => fun
  | [d] => { results := [.lit (.bool true)], args := [d] }
  | _ => none }
def fnRunCallsRow : OpenClaim := { program := "ytnnaeoicoghheaa", sum := "349cd0bea3f8b6e10e2806f8abc11baa1f9e55f42b4f299b8b12f4bf4ee991b9", func := "loop.example/gauger/laws.FnRunCalls", spec := "fnRunCalls", unfollowed := true, recurses := true, apart := false }
def FnRunCallsSaid : Prop := fnRunCallsRow.holds Try.pinned (OpenSpec.ofChange fnRunCallsSpec)

/-- ITS FALSE NEIGHBOUR: 'it returns false'. Refute it at one input. -/
def fnRunCallsWrong : ChangeSpec := { name := "fnRunCalls", fn := fun _ => fun
  | [d] => { results := [.lit (.bool false)], args := [d] }
  | _ => none }
def FnRunCallsWrongFalsely : Prop := fnRunCallsRow.holds Try.pinned (OpenSpec.ofChange fnRunCallsWrong)

/-- 'laws.FnRunEnds': WHATEVER THE INPUT: true; the input reads as it did. -/
def fnRunEndsSpec : ChangeSpec := { name := "fnRunEnds", fn := fun _ => fun
  | [d] => { results := [.lit (.bool true)], args := [d] }
  | _ => none }
def fnRunEndsRow : OpenClaim := { program := "ytnnaeoicoghheaa", sum := "349cd0bea3f8b6e10e2806f8abc11baa1f9e55f42b4f299b8b12f4bf4ee991b9", func := "loop.example/gauger/laws.FnRunEnds", spec := "fnRunEnds", unfollowed := true, recurses := true, apart := false }
def FnRunEndsSaid : Prop := fnRunEndsRow.holds Try.pinned (OpenSpec.ofChange fnRunEndsSpec)

/-- ITS FALSE NEIGHBOUR: 'it returns false'. Refute it at one input. -/
def fnRunEndsWrong : ChangeSpec := { name := "fnRunEnds", fn := fun _ => fun
  | [d] => { results := [.lit (.bool false)], args := [d] }
  | _ => none }
def FnRunEndsWrongFalsely : Prop := fnRunEndsRow.holds Try.pinned (OpenSpec.ofChange fnRunEndsWrong)

/-- 'laws.FnRunGo': WHATEVER THE INPUT: true; the input reads as it did. -/
def fnRunGoSpec : ChangeSpec := { name := "fnRunGo", fn := fun _ => fun
  | [d] => { results := [.lit (.bool true)], args := [d] }
  | _ => none }
def fnRunGoRow : OpenClaim := { program := "ytnnaeoicoghheaa", sum := "349cd0bea3f8b6e10e2806f8abc11baa1f9e55f42b4f299b8b12f4bf4ee991b9", func := "loop.example/gauger/laws.FnRunGo", spec := "fnRunGo", unfollowed := true, recurses := true, apart := false }
def FnRunGoSaid : Prop := fnRunGoRow.holds Try.pinned (OpenSpec.ofChange fnRunGoSpec)

/-- ITS FALSE NEIGHBOUR: 'it returns false'. Refute it at one input. -/
def fnRunGoWrong : ChangeSpec := { name := "fnRunGo", fn := fun _ => fun
  | [d] => { results := [.lit (.bool false)], args := [d] }
  | _ => none }
def FnRunGoWrongFalsely : Prop := fnRunGoRow.holds Try.pinned (OpenSpec.ofChange fnRunGoWrong)

/-- 'laws.FnRunStep': WHATEVER THE INPUT: true; the input reads as it did. -/
def fnRunStepSpec : ChangeSpec := { name := "fnRunStep", fn := fun _ => fun
  | [d] => { results := [.lit (.bool true)], args := [d] }
  | _ => none }
def fnRunStepRow : OpenClaim := { program := "ytnnaeoicoghheaa", sum := "349cd0bea3f8b6e10e2806f8abc11baa1f9e55f42b4f299b8b12f4bf4ee991b9", func := "loop.example/gauger/laws.FnRunStep", spec := "fnRunStep", unfollowed := true, recurses := true, apart := false }
def FnRunStepSaid : Prop := fnRunStepRow.holds Try.pinned (OpenSpec.ofChange fnRunStepSpec)

/-- ITS FALSE NEIGHBOUR: 'it returns false'. Refute it at one input. -/
def fnRunStepWrong : ChangeSpec := { name := "fnRunStep", fn := fun _ => fun
  | [d] => { results := [.lit (.bool false)], args := [d] }
  | _ => none }
def FnRunStepWrongFalsely : Prop := fnRunStepRow.holds Try.pinned (OpenSpec.ofChange fnRunStepWrong)

/-- 'laws.FnRunWrong': WHATEVER THE INPUT: true; the input reads as it did. -/
def fnRunWrongSpec : ChangeSpec := { name := "fnRunWrong", fn := fun _ => fun
  | [d] => { results := [.lit (.bool true)], args := [d] }
  | _ => none }
def fnRunWrongRow : OpenClaim := { program := "ytnnaeoicoghheaa", sum := "349cd0bea3f8b6e10e2806f8abc11baa1f9e55f42b4f299b8b12f4bf4ee991b9", func := "loop.example/gauger/laws.FnRunWrong", spec := "fnRunWrong", unfollowed := true, recurses := true, apart := false }
def FnRunWrongSaid : Prop := fnRunWrongRow.holds Try.pinned (OpenSpec.ofChange fnRunWrongSpec)

/-- ITS FALSE NEIGHBOUR: 'it returns false'. Refute it at one input. -/
def fnRunWrongWrong : ChangeSpec := { name := "fnRunWrong", fn := fun _ => fun
  | [d] => { results := [.lit (.bool false)], args := [d] }
  | _ => none }
def FnRunWrongWrongFalsely : Prop := fnRunWrongRow.holds Try.pinned (OpenSpec.ofChange fnRunWrongWrong)

/-- 'laws.FnRunInput': WHATEVER THE INPUT: true; the input reads as it did. -/
def fnRunInputSpec : ChangeSpec := { name := "fnRunInput", fn := fun _ => fun
  | [d] => { results := [.lit (.bool true)], args := [d] }
  | _ => none }
def fnRunInputRow : OpenClaim := { program := "ytnnaeoicoghheaa", sum := "349cd0bea3f8b6e10e2806f8abc11baa1f9e55f42b4f299b8b12f4bf4ee991b9", func := "loop.example/gauger/laws.FnRunInput", spec := "fnRunInput", unfollowed := true, recurses := true, apart := false }
def FnRunInputSaid : Prop := fnRunInputRow.holds Try.pinned (OpenSpec.ofChange fnRunInputSpec)

/-- ITS FALSE NEIGHBOUR: 'it returns false'. Refute it at one input. -/
def fnRunInputWrong : ChangeSpec := { name := "fnRunInput", fn := fun _ => fun
  | [d] => { results := [.lit (.bool false)], args := [d] }
  | _ => none }
def FnRunInputWrongFalsely : Prop := fnRunInputRow.holds Try.pinned (OpenSpec.ofChange fnRunInputWrong)

/-- 'laws.FnExactRunGo': WHATEVER THE INPUT: true; the input reads as it did. -/
def fnExactRunGoSpec : ChangeSpec := { name := "fnExactRunGo", fn := fun _ => fun
  | [d1, d2, d3] => { results := [.lit (.bool true)], args := [d1, d2, d3] }
  | _ => none }
def fnExactRunGoRow : OpenClaim := { program := "ytnnaeoicoghheaa", sum := "349cd0bea3f8b6e10e2806f8abc11baa1f9e55f42b4f299b8b12f4bf4ee991b9", func := "loop.example/gauger/laws.FnExactRunGo", spec := "fnExactRunGo", unfollowed := true, recurses := true, apart := false }
def FnExactRunGoSaid : Prop := fnExactRunGoRow.holds Try.pinned (OpenSpec.ofChange fnExactRunGoSpec)

/-- ITS FALSE NEIGHBOUR: 'it returns false'. Refute it at one input. -/
def fnExactRunGoWrong : ChangeSpec := { name := "fnExactRunGo", fn := fun _ => fun
  | [d1, d2, d3] => { results := [.lit (.bool false)], args := [d1, d2, d3] }
  | _ => none }
def FnExactRunGoWrongFalsely : Prop := fnExactRunGoRow.holds Try.pinned (OpenSpec.ofChange fnExactRunGoWrong)

/- THE SECOND FORM. 'bulk': how many values and letters a reading holds, each counted each time it is reached (what is shared counts as often as it is met; a slice's spare places count too). A statement '..UptoSaid' is the law's where the arguments, and the package variables that the reading takes, are together of bulk at most 1048576: NARROWER than '..Said'. Prove '..Said' where nothing that the law and all that it calls make is longer than what came in: it says more and counts as full. Else prove '..UptoSaid'. A law counts once. -/
mutual
def uptoBulk {H : Type} : DataW H → Nat
  | .lit (.string bytes) => bytes.length + 1
  | .lit _ => 1
  | .nil => 1
  | .ptr d => uptoBulk d + 1
  | .slice elems spare => uptoBulkAll elems + uptoBulkAll spare + 1
  | .agg parts => uptoBulkAll parts + 1
  | .iface _ d => uptoBulk d + 1
  | .map entries => uptoBulkEntries entries + 1
  | .held _ => 1
def uptoBulkAll {H : Type} : List (DataW H) → Nat
  | [] => 0
  | d :: r => uptoBulk d + uptoBulkAll r
def uptoBulkEntries {H : Type} : List (Lit × DataW H) → Nat
  | [] => 0
  | x :: r => uptoBulkEntry x + uptoBulkEntries r
def uptoBulkEntry {H : Type} : Lit × DataW H → Nat
  | (.string bytes, d) => bytes.length + uptoBulk d + 1
  | (_, d) => uptoBulk d + 1
 end
def uptoSmall : (H : Type) → List (DataW H) → Bool := fun _ ds => decide (uptoBulkAll ds ≤ 1048576)
def OpenSpec.upto (s : _root_.Go.ChangeSpec) : _root_.Go.OpenSpec := { _root_.Go.OpenSpec.ofChange s with cond := some uptoSmall }

/-- 'laws.FnExactBossNew', WHERE WHAT IT READS IS OF BULK AT MOST 1048576: true; the input reads as it did. -/
def fnExactBossNewUptoRow : OpenClaim := { program := "ytnnaeoicoghheaa", sum := "349cd0bea3f8b6e10e2806f8abc11baa1f9e55f42b4f299b8b12f4bf4ee991b9", func := "loop.example/gauger/laws.FnExactBossNew", spec := "fnExactBossNew", apart := false, narrowed := true }
def FnExactBossNewUptoSaid : Prop := fnExactBossNewUptoRow.holds Try.pinned (OpenSpec.upto fnExactBossNewSpec)

/-- 'laws.FnExactFlowSites', WHERE WHAT IT READS IS OF BULK AT MOST 1048576: true; the input reads as it did. -/
def fnExactFlowSitesUptoRow : OpenClaim := { program := "ytnnaeoicoghheaa", sum := "349cd0bea3f8b6e10e2806f8abc11baa1f9e55f42b4f299b8b12f4bf4ee991b9", func := "loop.example/gauger/laws.FnExactFlowSites", spec := "fnExactFlowSites", unfollowed := true, recurses := true, apart := false, narrowed := true }
def FnExactFlowSitesUptoSaid : Prop := fnExactFlowSitesUptoRow.holds Try.pinned (OpenSpec.upto fnExactFlowSitesSpec)

/-- 'laws.FnFlowOut', WHERE WHAT IT READS IS OF BULK AT MOST 1048576: true; the input reads as it did. -/
def fnFlowOutUptoRow : OpenClaim := { program := "ytnnaeoicoghheaa", sum := "349cd0bea3f8b6e10e2806f8abc11baa1f9e55f42b4f299b8b12f4bf4ee991b9", func := "loop.example/gauger/laws.FnFlowOut", spec := "fnFlowOut", unfollowed := true, recurses := true, apart := false, narrowed := true }
def FnFlowOutUptoSaid : Prop := fnFlowOutUptoRow.holds Try.pinned (OpenSpec.upto fnFlowOutSpec)

/-- 'laws.FnRunCalls', WHERE WHAT IT READS IS OF BULK AT MOST 1048576: true; the input reads as it did. -/
def fnRunCallsUptoRow : OpenClaim := { program := "ytnnaeoicoghheaa", sum := "349cd0bea3f8b6e10e2806f8abc11baa1f9e55f42b4f299b8b12f4bf4ee991b9", func := "loop.example/gauger/laws.FnRunCalls", spec := "fnRunCalls", unfollowed := true, recurses := true, apart := false, narrowed := true }
def FnRunCallsUptoSaid : Prop := fnRunCallsUptoRow.holds Try.pinned (OpenSpec.upto fnRunCallsSpec)

/-- 'laws.FnRunEnds', WHERE WHAT IT READS IS OF BULK AT MOST 1048576: true; the input reads as it did. -/
def fnRunEndsUptoRow : OpenClaim := { program := "ytnnaeoicoghheaa", sum := "349cd0bea3f8b6e10e2806f8abc11baa1f9e55f42b4f299b8b12f4bf4ee991b9", func := "loop.example/gauger/laws.FnRunEnds", spec := "fnRunEnds", unfollowed := true, recurses := true, apart := false, narrowed := true }
def FnRunEndsUptoSaid : Prop := fnRunEndsUptoRow.holds Try.pinned (OpenSpec.upto fnRunEndsSpec)

/-- 'laws.FnRunGo', WHERE WHAT IT READS IS OF BULK AT MOST 1048576: true; the input reads as it did. -/
def fnRunGoUptoRow : OpenClaim := { program := "ytnnaeoicoghheaa", sum := "349cd0bea3f8b6e10e2806f8abc11baa1f9e55f42b4f299b8b12f4bf4ee991b9", func := "loop.example/gauger/laws.FnRunGo", spec := "fnRunGo", unfollowed := true, recurses := true, apart := false, narrowed := true }
def FnRunGoUptoSaid : Prop := fnRunGoUptoRow.holds Try.pinned (OpenSpec.upto fnRunGoSpec)

/-- 'laws.FnRunStep', WHERE WHAT IT READS IS OF BULK AT MOST 1048576: true; the input reads as it did. -/
def fnRunStepUptoRow : OpenClaim := { program := "ytnnaeoicoghheaa", sum := "349cd0bea3f8b6e10e2806f8abc11baa1f9e55f42b4f299b8b12f4bf4ee991b9", func := "loop.example/gauger/laws.FnRunStep", spec := "fnRunStep", unfollowed := true, recurses := true, apart := false, narrowed := true }
def FnRunStepUptoSaid : Prop := fnRunStepUptoRow.holds Try.pinned (OpenSpec.upto fnRunStepSpec)

/-- 'laws.FnRunWrong', WHERE WHAT IT READS IS OF BULK AT MOST 1048576: true; the input reads as it did. -/
def fnRunWrongUptoRow : OpenClaim := { program := "ytnnaeoicoghheaa", sum := "349cd0bea3f8b6e10e2806f8abc11baa1f9e55f42b4f299b8b12f4bf4ee991b9", func := "loop.example/gauger/laws.FnRunWrong", spec := "fnRunWrong", unfollowed := true, recurses := true, apart := false, narrowed := true }
def FnRunWrongUptoSaid : Prop := fnRunWrongUptoRow.holds Try.pinned (OpenSpec.upto fnRunWrongSpec)

/-- 'laws.FnRunInput', WHERE WHAT IT READS IS OF BULK AT MOST 1048576: true; the input reads as it did. -/
def fnRunInputUptoRow : OpenClaim := { program := "ytnnaeoicoghheaa", sum := "349cd0bea3f8b6e10e2806f8abc11baa1f9e55f42b4f299b8b12f4bf4ee991b9", func := "loop.example/gauger/laws.FnRunInput", spec := "fnRunInput", unfollowed := true, recurses := true, apart := false, narrowed := true }
def FnRunInputUptoSaid : Prop := fnRunInputUptoRow.holds Try.pinned (OpenSpec.upto fnRunInputSpec)

/-- 'laws.FnExactRunGo', WHERE WHAT IT READS IS OF BULK AT MOST 1048576: true; the input reads as it did. -/
def fnExactRunGoUptoRow : OpenClaim := { program := "ytnnaeoicoghheaa", sum := "349cd0bea3f8b6e10e2806f8abc11baa1f9e55f42b4f299b8b12f4bf4ee991b9", func := "loop.example/gauger/laws.FnExactRunGo", spec := "fnExactRunGo", unfollowed := true, recurses := true, apart := false, narrowed := true }
def FnExactRunGoUptoSaid : Prop := fnExactRunGoUptoRow.holds Try.pinned (OpenSpec.upto fnExactRunGoSpec)

end Rows
end Go.Proofs.Ytnnaeoicoghheaa
